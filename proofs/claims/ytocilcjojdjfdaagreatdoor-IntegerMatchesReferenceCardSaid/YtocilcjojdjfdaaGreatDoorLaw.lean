/-
  Contracts of functions of the program, and plain lemmas on numbers and strings. By an AI agent.
-/
import Derived.Test.YtocilcjojdjfdaaGreatDoorStrY
import Derived.Test.YtocilcjojdjfdaaGreatDoorEng
import Derived.Test.YtocilcjojdjfdaaGreatDoorNum
import Derived.Test.YtocilcjojdjfdaaGreatDoorStrX
import Derived.Test.YtocilcjojdjfdaaGreatDoorPlain
import Derived.Laws.BytesArg
set_option linter.unusedSimpArgs false
set_option linter.unusedVariables false
namespace Go.Proofs.YtocilcjojdjfdaaGreatDoor
open Go Go.Eng Go.Proofs Go.Num Go.RowKit
set_option maxRecDepth 100000
set_option linter.unusedVariables false
def canon (l : List UInt8) : Bool := !l.isEmpty && l.all (fun b => decide (isD b)) && (l.length == 1 || l.head? != some 48)
theorem lit_dec {l : List UInt8} (h : canon l = true) : Lib.decDigits (dv l) = l := by
  unfold canon at h
  simp only [Bool.and_eq_true, Bool.or_eq_true, List.all_eq_true, decide_eq_true_eq, beq_iff_eq, bne_iff_ne, Bool.not_eq_true', List.isEmpty_eq_false_iff] at h
  exact dec_dv h.1.2 h.1.1 h.2
theorem lit_pos {l : List UInt8} (z : Int) (h : canon l = true) (hz : z = (dv l : Int)) : Lib.itoa z = l := by
  subst hz
  unfold Lib.itoa
  rw [if_neg (by omega), Int.toNat_natCast, lit_dec h]
theorem lit_neg {l : List UInt8} (z : Int) (h : canon l = true) (hz : z = -(dv l : Int)) (h0 : z < 0) : Lib.itoa z = 45 :: l := by
  unfold Lib.itoa
  rw [if_pos h0, show z.natAbs = dv l from by omega, lit_dec h]
theorem small_MaxI {z : Int} (h : z.natAbs < 1000000) : z.natAbs < MaxI := by have := MaxI_pos; omega
theorem l999 : Lib.itoa 999 = [57, 57, 57] := lit_pos _ (by decide) (by decide)
theorem l1 : Lib.itoa 1 = [49] := lit_pos _ (by decide) (by decide)
theorem l2 : Lib.itoa 2 = [50] := lit_pos _ (by decide) (by decide)
theorem l4 : Lib.itoa 4 = [52] := lit_pos _ (by decide) (by decide)
theorem l6 : Lib.itoa 6 = [54] := lit_pos _ (by decide) (by decide)
theorem l9 : Lib.itoa 9 = [57] := lit_pos _ (by decide) (by decide)
theorem l12 : Lib.itoa 12 = [49, 50] := lit_pos _ (by decide) (by decide)
theorem l99 : Lib.itoa 99 = [57, 57] := lit_pos _ (by decide) (by decide)
theorem l1000 : Lib.itoa 1000 = [49, 48, 48, 48] := lit_pos _ (by decide) (by decide)
theorem lm1 : Lib.itoa (-1) = [45, 49] := lit_neg _ (by decide) (by decide) (by decide)
theorem lm2 : Lib.itoa (-2) = [45, 50] := lit_neg _ (by decide) (by decide) (by decide)
theorem lm4 : Lib.itoa (-4) = [45, 52] := lit_neg _ (by decide) (by decide) (by decide)
theorem lm7 : Lib.itoa (-7) = [45, 55] := lit_neg _ (by decide) (by decide) (by decide)
theorem lm8 : Lib.itoa (-8) = [45, 56] := lit_neg _ (by decide) (by decide) (by decide)
theorem lm12 : Lib.itoa (-12) = [45, 49, 50] := lit_neg _ (by decide) (by decide) (by decide)
theorem lm18 : Lib.itoa (-18) = [45, 49, 56] := lit_neg _ (by decide) (by decide) (by decide)
theorem lm144 : Lib.itoa (-144) = [45, 49, 52, 52] := lit_neg _ (by decide) (by decide) (by decide)
theorem lm999 : Lib.itoa (-999) = [45, 57, 57, 57] := lit_neg _ (by decide) (by decide) (by decide)
theorem resS {z : Int} {l : List UInt8} (h : z.natAbs < 1000000) (hl : Lib.itoa z = l) : resI z = .tuple #[str l, .int .i64 0] := by
  rw [resI_small (small_MaxI h), hl]
theorem Ret.lit {w : World} {f : FuncId} {args : Array Value} {u v : Value} (h : Calls Tryz.prog f args w (Ret fun r w' => Ext w w' ∧ r = u)) (e : u = v) : Calls Tryz.prog f args w (Ret fun r w' => Ext w w' ∧ r = v) := e ▸ h
theorem sanA {w : World} (ht : Tab w) : Calls Tryz.prog 14 #[str [57, 57, 57], str [49]] w (Ret fun r w' => Ext w w' ∧ r = .tuple #[str [49, 48, 48, 48], .int .i64 0]) := by
  have h := c_Add (x := 999) (y := 1) (w := w) (small_MaxI (by decide)) (small_MaxI (by decide)) ht
  rw [l999, l1] at h
  exact Ret.lit h (resS (by decide) l1000)
theorem sanS {w : World} (ht : Tab w) : Calls Tryz.prog 16 #[str [49], str [49, 48, 48, 48]] w (Ret fun r w' => Ext w w' ∧ r = .tuple #[str [45, 57, 57, 57], .int .i64 0]) := by
  have h := c_Sub (x := 1) (y := 1000) (w := w) (small_MaxI (by decide)) (small_MaxI (by decide)) ht
  rw [l1000, l1] at h
  exact Ret.lit h (resS (by decide) lm999)
theorem sanM {w : World} (ht : Tab w) : Calls Tryz.prog 15 #[str [45, 49, 50], str [49, 50]] w (Ret fun r w' => Ext w w' ∧ r = .tuple #[str [45, 49, 52, 52], .int .i64 0]) := by
  have h := c_Mul (x := -12) (y := 12) (w := w) (small_MaxI (by decide)) (small_MaxI (by decide)) ht
  rw [lm12, l12] at h
  exact Ret.lit h (resS (by decide) lm144)
theorem sanD {w : World} (ht : Tab w) : Calls Tryz.prog 17 #[str [45, 55], str [50]] w (Ret fun r w' => Ext w w' ∧ r = .tuple #[str [45, 52], str [49], .int .i64 0]) := by
  have h := c_Div (x := -7) (y := 2) (w := w) (small_MaxI (by decide)) (small_MaxI (by decide)) (by decide) ht
  rw [lm7, l2] at h
  refine h.mono ?_
  rintro _ w' ⟨_, rfl, h1, rfl⟩
  exact Ret.mk ⟨h1, by rw [show (-7 : Int) / 2 = -4 from by decide, show (-7 : Int) % 2 = 1 from by decide, lm4, l1]⟩
theorem sanD' {w : World} (ht : Tab w) : Calls Tryz.prog 17 #[str [45, 55], str [45, 50]] w (Ret fun r w' => Ext w w' ∧ r = .tuple #[str [52], str [49], .int .i64 0]) := by
  have h := c_Div (x := -7) (y := -2) (w := w) (small_MaxI (by decide)) (small_MaxI (by decide)) (by decide) ht
  rw [lm7, lm2] at h
  refine h.mono ?_
  rintro _ w' ⟨_, rfl, h1, rfl⟩
  exact Ret.mk ⟨h1, by rw [show (-7 : Int) / -2 = 4 from by decide, show (-7 : Int) % -2 = 1 from by decide, l4, l1]⟩
theorem sanG {w : World} (ht : Tab w) : Calls Tryz.prog 20 #[str [49, 50], str [45, 49, 56]] w (Ret fun r w' => Ext w w' ∧ r = .tuple #[str [54], .int .i64 0]) := by
  have h := c_Gcd (x := 12) (y := -18) (w := w) (small_MaxI (by decide)) (small_MaxI (by decide)) ht
  rw [l12, lm18] at h
  exact Ret.lit h (by rw [show (Int.gcd 12 (-18) : Int) = 6 from by decide]; exact resS (by decide) l6)
theorem sanR {w : World} (ht : Tab w) : Calls Tryz.prog 21 #[str [57, 57]] w (Ret fun r w' => Ext w w' ∧ r = .tuple #[str [57], .int .i64 0]) := by
  have h := c_Root (x := 99) (w := w) (small_MaxI (by decide)) (by decide) ht
  rw [l99] at h
  refine h.mono ?_
  rintro _ w' ⟨_, rfl, h1, s, h2, h3, h4, rfl⟩
  have h5 : s = 9 := by
    have h6 : s < 10 := by
      refine Int.not_le.1 fun hc => ?_
      have : (10 : Int) * 10 ≤ s * s := Int.mul_le_mul hc hc (by decide) h2
      omega
    have h7 : 8 < s := by
      refine Int.not_le.1 fun hc => ?_
      have : (s + 1) * (s + 1) ≤ 9 * 9 := Int.mul_le_mul (by omega) (by omega) (by omega) (by decide)
      omega
    omega
  exact Ret.mk ⟨h1, by rw [h5, l9]⟩
theorem sanN {w : World} : Calls Tryz.prog 21 #[str [45, 49]] w (Ret fun r w' => Ext w w' ∧ r = .tuple #[str [], .int .i64 30]) := by
  have h := c_Root_neg (x := -1) (w := w) (small_MaxI (by decide)) (by decide)
  rw [lm1] at h
  exact h
theorem sanV {l : List UInt8} {b : Bool} {w : World} (hl : l.length ≤ 1000000) (h : validB l = b) : Calls Tryz.prog 19 #[str l] w (Ret fun r w' => Ext w w' ∧ r = .bool b) := by
  have := c_Valid (w := w) hl
  rw [h] at this
  exact this
theorem sanC {w : World} : Calls Tryz.prog 18 #[str [45, 56], str [45, 55]] w (Ret fun r w' => Ext w w' ∧ r = .int .i64 (-1)) := by
  have h := c_Compare (x := -8) (y := -7) (w := w) (small_MaxI (by decide)) (small_MaxI (by decide))
  rw [lm8, lm7] at h
  exact h
theorem c_sane {w : World} (ht : Tab w) : Calls Tryz.prog 12 #[] w (Ret fun r w' => Ext w w' ∧ r = .bool true) := by
  apply e_law03_sane
  unfold s_law03_sane
  refine Cl2 n_integer_Add (sanA (ht.ext (Ext.refl w))) fun w1 h1 => ?_
  refine Cl2 n_integer_Sub (sanS (ht.ext h1)) fun w2 h2 => ?_
  have h2 := h1.tr h2
  refine Cl2 n_integer_Mul (sanM (ht.ext h2)) fun w3 h3 => ?_
  have h3 := h2.tr h3
  refine Cl3 n_integer_Div (sanD (ht.ext h3)) fun w4 h4 => ?_
  have h4 := h3.tr h4
  refine Cl3 n_integer_Div (sanD' (ht.ext h4)) fun w5 h5 => ?_
  have h5 := h4.tr h5
  refine Cl2 n_integer_Gcd (sanG (ht.ext h5)) fun w6 h6 => ?_
  have h6 := h5.tr h6
  refine Cl2 n_integer_Root (sanR (ht.ext h6)) fun w7 h7 => ?_
  have h7 := h6.tr h7
  refine Cl2 n_integer_Root (sanN) fun w8 h8 => ?_
  have h8 := h7.tr h8
  refine Cl2 n_integer_Add (c_Add_bad (s := [48, 48, 55]) (t := [49]) (by decide) (by decide) (by decide)) fun w9 h9 => ?_
  have h9 := h8.tr h9
  ((try simp -dsimp [go_sem]); repeat (simp -dsimp (disch := omega) only [w64, wu64, dlt_t, dlt_f, dle_t, dle_f, deq_t, deq_f, beq_t, beq_f, bne_t, bne_f, nlt_t, nlt_f, nle_t, nle_f, neq_t, neq_f, nbeq_t, nbeq_f, nbne_t, nbne_f, it_t, it_f, dit_t, dit_f]; try simp -dsimp [go_sem]))
  refine Cl1 n_integer_Valid (sanV (b := true) (by decide) (by decide)) fun w10 h10 => ?_
  have h10 := h9.tr h10
  ((try simp -dsimp [go_sem]); repeat (simp -dsimp (disch := omega) only [w64, wu64, dlt_t, dlt_f, dle_t, dle_f, deq_t, deq_f, beq_t, beq_f, bne_t, bne_f, nlt_t, nlt_f, nle_t, nle_f, neq_t, neq_f, nbeq_t, nbeq_f, nbne_t, nbne_f, it_t, it_f, dit_t, dit_f]; try simp -dsimp [go_sem]))
  refine Cl1 n_integer_Valid (sanV (b := false) (by decide) (by decide)) fun w11 h11 => ?_
  have h11 := h10.tr h11
  ((try simp -dsimp [go_sem]); repeat (simp -dsimp (disch := omega) only [w64, wu64, dlt_t, dlt_f, dle_t, dle_f, deq_t, deq_f, beq_t, beq_f, bne_t, bne_f, nlt_t, nlt_f, nle_t, nle_f, neq_t, neq_f, nbeq_t, nbeq_f, nbne_t, nbne_f, it_t, it_f, dit_t, dit_f]; try simp -dsimp [go_sem]))
  refine Cl1 n_integer_Valid (sanV (b := false) (by decide) (by decide)) fun w12 h12 => ?_
  have h12 := h11.tr h12
  ((try simp -dsimp [go_sem]); repeat (simp -dsimp (disch := omega) only [w64, wu64, dlt_t, dlt_f, dle_t, dle_f, deq_t, deq_f, beq_t, beq_f, bne_t, bne_f, nlt_t, nlt_f, nle_t, nle_f, neq_t, neq_f, nbeq_t, nbeq_f, nbne_t, nbne_f, it_t, it_f, dit_t, dit_f]; try simp -dsimp [go_sem]))
  refine Cl1 n_integer_Compare (sanC) fun w13 h13 => ?_
  have h13 := h12.tr h13
  ((try simp -dsimp [go_sem]); repeat (simp -dsimp (disch := omega) only [w64, wu64, dlt_t, dlt_f, dle_t, dle_f, deq_t, deq_f, beq_t, beq_f, bne_t, bne_f, nlt_t, nlt_f, nle_t, nle_f, neq_t, neq_f, nbeq_t, nbeq_f, nbne_t, nbne_f, it_t, it_f, dit_t, dit_f]; try simp -dsimp [go_sem]))
  exact Ret.mk ⟨h13, rfl⟩
end Go.Proofs.YtocilcjojdjfdaaGreatDoor
namespace Go.Proofs.YtocilcjojdjfdaaGreatDoor
open Go Go.Eng Go.Proofs Go.Num Go.RowKit
set_option maxRecDepth 100000
set_option linter.unusedVariables false
theorem sliI : Sli Tryz.prog 44 3 (.int .i64 0) 8 := ⟨Tryz.underlying44, ⟨Tryz.t3, by kernel_rfl, by kernel_rfl, by kernel_rfl, by kernel_rfl⟩, rfl⟩
theorem sliB : Sli Tryz.prog 72 5 (.int .u8 0) 1 := ⟨Tryz.underlying72, ⟨Tryz.t5, by kernel_rfl, by kernel_rfl, by kernel_rfl, by kernel_rfl⟩, rfl⟩
abbrev bv (b : UInt8) : Value := .int .u8 b.toNat
theorem wu8 {x : Int} (h1 : 0 ≤ x) (h2 : x < 256) : IntKind.u8.wrap x = x := by rw [IntKind.wrap_u8]; omega
theorem cv_str {w : World} {v : Value} {l : List UInt8} (h : SlAt w v (l.map bv)) : (convert 72 9 v).run Tryz.prog w = .ok (str l) w := by
  rcases h with ⟨rfl, hx⟩ | ⟨b, o, cap, rfl, hc, hcells⟩
  · have : l = [] := by simpa using hx
    subst this
    exact run_convert_bytes_nil w _ _ Tryz.underlying72 Tryz.underlying5 _ _ _ Tryz.underlying9
  · have := run_convert_bytes_arg (P := Tryz.prog) w 72 5 Tryz.underlying72 Tryz.underlying5 b o (l.map bv).length cap (l.map fun x => (x.toNat : Int)) (by simp) (fun i hi => by
      simp at hi
      rw [hcells i (bv l[i]) (by simp [hi])]
      simp [List.getD, hi]) 9 Tryz.underlying9
    rw [this]
    congr 2
    show (⟨_⟩ : ByteArray) = _
    congr 2
    rw [List.map_map]
    conv => rhs; rw [← List.map_id l]
    apply List.map_congr_left
    intro x _
    simp
theorem c_rtrim {w : World} {v : Value} {xs : List Int} (h : NumL w v xs) (hl : xs.length ≤ 1000000) :
    Calls Tryz.prog 37 #[v] w (Ret fun u w' => NumL w' u (trimL xs) ∧ w' = w ∧ ∀ B, Fresh B v → Fresh B u) := by
  apply e_ref03_trim
  unfold s_ref03_trim
  refine Lp1.mk (fun a W => W = w ∧ (∀ B, Fresh B v → Fresh B a) ∧ ∃ ys : List Int, NumL w a ys ∧ trimL ys = trimL xs ∧ ys.length ≤ 1000000) (fun a _ => match a with | .slice _ n _ => n | _ => 0) ⟨rfl, fun _ h => h, xs, h, rfl, hl⟩ ?_
  rintro a W ⟨rfl, hf, ys, hy, ht, hly⟩
  rcases hy with ⟨rfl, hx⟩ | ⟨b, o, cap, rfl, hc, hcells⟩
  · have : ys = [] := by simpa using hx
    subst this
    ((try simp -dsimp [go_sem]); repeat (simp -dsimp (disch := omega) only [w64, wu64, dlt_t, dlt_f, dle_t, dle_f, deq_t, deq_f, beq_t, beq_f, bne_t, bne_f, nlt_t, nlt_f, nle_t, nle_f, neq_t, neq_f, nbeq_t, nbeq_f, nbne_t, nbne_f, it_t, it_f, dit_t, dit_f]; try simp -dsimp [go_sem]))
    exact Ret.mk ⟨.inl ⟨rfl, by rw [← ht]; rfl⟩, rfl, hf⟩
  · simp only [List.length_map] at hc ⊢
    rcases List.eq_nil_or_concat ys with rfl | ⟨zs, d, rfl⟩
    · ((try simp -dsimp [go_sem]); repeat (simp -dsimp (disch := omega) only [w64, wu64, dlt_t, dlt_f, dle_t, dle_f, deq_t, deq_f, beq_t, beq_f, bne_t, bne_f, nlt_t, nlt_f, nle_t, nle_f, neq_t, neq_f, nbeq_t, nbeq_f, nbne_t, nbne_f, it_t, it_f, dit_t, dit_f]; try simp -dsimp [go_sem]))
      exact Ret.mk ⟨.inr ⟨b, o, cap, by rw [← ht]; rfl, by rw [← ht]; simp [trimL], by rw [← ht]; intro i x hx; simp [trimL] at hx⟩, rfl, hf⟩
    · simp only [List.concat_eq_append] at *
      have hcell := hcells zs.length (iv d) (by simp)
      simp only [List.length_append, List.length_cons, List.length_nil] at hc hly ⊢
      by_cases hd : d = 0
      · subst hd
        ((try simp -dsimp [go_sem, hcell]); repeat (simp -dsimp (disch := omega) only [w64, wu64, dlt_t, dlt_f, dle_t, dle_f, deq_t, deq_f, beq_t, beq_f, bne_t, bne_f, nlt_t, nlt_f, nle_t, nle_f, neq_t, neq_f, nbeq_t, nbeq_f, nbne_t, nbne_f, it_t, it_f, dit_t, dit_f]; try simp -dsimp [go_sem, hcell]))
        refine ⟨fun B hB a n c hv => hf B hB a (zs.length + 1) c (by simp at hv ⊢; exact ⟨hv.1, hv.2.2⟩), zs, .inr ⟨b, o, cap, by simp, by simp; omega, fun i x hx => hcells i x ?_⟩, by rw [← ht, trimL_snoc_zero], by omega⟩
        rw [List.map_append, List.getElem?_append_left (List.getElem?_eq_some_iff.1 hx).1]; exact hx
      · ((try simp -dsimp [go_sem, hcell, hd]); repeat (simp -dsimp (disch := omega) only [w64, wu64, dlt_t, dlt_f, dle_t, dle_f, deq_t, deq_f, beq_t, beq_f, bne_t, bne_f, nlt_t, nlt_f, nle_t, nle_f, neq_t, neq_f, nbeq_t, nbeq_f, nbne_t, nbne_f, it_t, it_f, dit_t, dit_f]; try simp -dsimp [go_sem, hcell, hd]))
        rw [trimL_snoc hd] at ht
        exact Ret.mk ⟨.inr ⟨b, o, cap, by rw [← ht]; simp, by rw [← ht]; simp; omega, by rw [← ht]; exact hcells⟩, rfl, by simpa using hf⟩
theorem itoa_0 : Lib.itoa 0 = [48] := by unfold Lib.itoa; rw [if_neg (by decide)]; exact dec_lt (by decide)
theorem trimL_len (xs : List Int) : (trimL xs).length ≤ xs.length := by
  induction xs with
  | nil => simp [trimL]
  | cons d xs ih =>
    simp only [trimL]
    split
    · simp
    · simp; exact ih
def Dg10 (xs : List Int) : Prop := ∀ d ∈ xs, 0 ≤ d ∧ d < 10
def Nrm10 (xs : List Int) : Prop := Dg10 xs ∧ trimL xs = xs
def num10 : List Int → Int
  | [] => 0
  | d :: ds => d + 10 * num10 ds
def dch (d : Int) : UInt8 := UInt8.ofNat (48 + d.toNat)
def txt (xs : List Int) : List UInt8 := xs.reverse.map dch
theorem Dg10.cons {d : Int} {xs : List Int} (h : Dg10 (d :: xs)) : Dg10 xs := fun e he => h e (List.mem_cons_of_mem _ he)
theorem Nrm10.trimL {xs : List Int} (h : Dg10 xs) : Nrm10 (trimL xs) := ⟨fun d hd => h d (trimL_mem hd), trimL_trimL xs⟩
theorem num10_nonneg {xs : List Int} (h : Dg10 xs) : 0 ≤ num10 xs := by
  induction xs with
  | nil => exact Int.le_refl _
  | cons d xs ih =>
    have := ih h.cons
    have := h d (List.mem_cons_self ..)
    simp only [num10]; omega
theorem num10_lt {xs : List Int} (h : Dg10 xs) : num10 xs < 10 ^ xs.length := by
  induction xs with
  | nil => decide
  | cons d xs ih =>
    have := ih h.cons
    have := h d (List.mem_cons_self ..)
    simp only [num10, List.length_cons]
    rw [Int.pow_succ]; omega
theorem num10_trimL (xs : List Int) : num10 (trimL xs) = num10 xs := by
  induction xs with
  | nil => rfl
  | cons d xs ih =>
    simp only [trimL]
    split
    · next h => rw [h.2] at ih; rw [h.1]; simp only [num10] at ih ⊢; omega
    · simp only [num10, ih]
theorem dch_toNat {d : Int} (h : 0 ≤ d ∧ d < 10) : (dch d).toNat = 48 + d.toNat := toNat_digit (by omega)
theorem txt_cons (d : Int) (xs : List Int) : txt (d :: xs) = txt xs ++ [dch d] := by simp [txt]
theorem txt_length (xs : List Int) : (txt xs).length = xs.length := by simp [txt]
theorem txt_isD {xs : List Int} (h : Dg10 xs) : ∀ b ∈ txt xs, isD b := by
  intro b hb
  simp only [txt, List.mem_map, List.mem_reverse] at hb
  obtain ⟨d, hd, rfl⟩ := hb
  have := h d hd
  unfold isD
  rw [dch_toNat this]; omega
theorem txt_dv {xs : List Int} (h : Dg10 xs) : (dv (txt xs) : Int) = num10 xs := by
  induction xs with
  | nil => rfl
  | cons d xs ih =>
    have h1 := h d (List.mem_cons_self ..)
    rw [txt_cons, dv_snoc, dch_toNat h1]
    have := ih h.cons
    simp only [num10]
    omega
theorem txt_head {xs : List Int} (h : Nrm10 xs) (hne : xs ≠ []) : (txt xs).head? ≠ some 48 := by
  rcases List.eq_nil_or_concat xs with rfl | ⟨zs, d, rfl⟩
  · exact absurd rfl hne
  · simp only [List.concat_eq_append] at *
    have hd : 0 ≤ d ∧ d < 10 := h.1 d (by simp)
    have h0 : d ≠ 0 := by
      rintro rfl
      have h2 := h.2
      rw [trimL_snoc_zero] at h2
      have h3 := congrArg List.length h2
      have h4 : (trimL zs).length ≤ zs.length := trimL_len zs
      simp at h3; omega
    simp only [txt, List.reverse_append, List.reverse_cons, List.reverse_nil, List.nil_append, List.cons_append, List.map_cons, List.head?_cons]
    intro hc
    have := congrArg (fun o : Option UInt8 => (o.getD 0).toNat) hc
    simp [dch_toNat hd] at this
    omega
theorem txt_dec {xs : List Int} (h : Nrm10 xs) (hne : xs ≠ []) : Lib.decDigits (num10 xs).toNat = txt xs := by
  have h1 := txt_dv h.1
  rw [← h1, Int.toNat_natCast]
  refine dec_dv (txt_isD h.1) ?_ (.inr (txt_head h hne))
  intro hc
  have := congrArg List.length hc
  rw [txt_length] at this
  exact hne (List.eq_nil_of_length_eq_zero (by simpa using this))
theorem num10_pos {xs : List Int} (h : Nrm10 xs) (hne : xs ≠ []) : 0 < num10 xs := by
  have h0 := num10_nonneg h.1
  refine Classical.byContradiction fun hc => ?_
  have h1 := txt_dec h hne
  rw [show num10 xs = 0 from by omega] at h1
  have h2 : Lib.decDigits (0 : Int).toNat = [48] := dec_lt (by decide)
  rw [h2] at h1
  exact txt_head h hne (by rw [← h1]; rfl)
def sg (b : Bool) (x : Int) : Int := if b then -x else x
theorem txt_itoa {xs : List Int} (h : Nrm10 xs) (b : Bool) (hne : xs ≠ []) : (if b then [45] else []) ++ txt xs = Lib.itoa (sg b (num10 xs)) := by
  have hp := num10_pos h hne
  cases b with
  | true =>
    show [45] ++ txt xs = Lib.itoa (-num10 xs)
    rw [← txt_dec h hne]
    unfold Lib.itoa
    rw [if_pos (by omega), show (-num10 xs).natAbs = (num10 xs).toNat from by omega]
    rfl
  | false =>
    show [] ++ txt xs = Lib.itoa (num10 xs)
    rw [← txt_dec h hne]
    unfold Lib.itoa
    rw [if_neg (by omega)]
    rfl
theorem c_rtext {w : World} {v : Value} {xs : List Int} {neg : Bool} (h : NumL w v xs) (hn : Nrm10 xs) (hl : xs.length ≤ 1000000) :
    Calls Tryz.prog 36 #[.bool neg, v] w (Ret fun r w' => Ext w w' ∧ r = .tuple #[str (Lib.itoa (sg neg (num10 xs))), .bool (decide (xs.length ≤ 200))]) := by
  apply e_ref03_text
  unfold s_ref03_text
  rcases List.eq_nil_or_concat xs with rfl | ⟨zs, d0, hxs⟩
  · obtain ⟨a, c, rfl⟩ := h.slice
    ((try simp -dsimp [go_sem]); repeat (simp -dsimp (disch := omega) only [w64, wu64, dlt_t, dlt_f, dle_t, dle_f, deq_t, deq_f, beq_t, beq_f, bne_t, bne_f, nlt_t, nlt_f, nle_t, nle_f, neq_t, neq_f, nbeq_t, nbeq_f, nbne_t, nbne_f, it_t, it_f, dit_t, dit_f]; try simp -dsimp [go_sem]))
    refine Ret.mk ⟨.refl _, ?_⟩
    have : sg neg (num10 []) = 0 := by cases neg <;> rfl
    rw [this, itoa_0]
  · have hne : xs ≠ [] := by rw [hxs]; simp
    have hpos : 0 < xs.length := List.length_pos_iff.2 hne
    rcases h with ⟨rfl, hx⟩ | ⟨b, o, cap, rfl, hc, hcells⟩
    · exact absurd (by simpa using hx) hne
    · rw [List.length_map] at hc ⊢
      ((try simp -dsimp [go_sem]); repeat (simp -dsimp (disch := omega) only [w64, wu64, dlt_t, dlt_f, dle_t, dle_f, deq_t, deq_f, beq_t, beq_f, bne_t, bne_f, nlt_t, nlt_f, nle_t, nle_f, neq_t, neq_f, nbeq_t, nbeq_f, nbne_t, nbne_f, it_t, it_f, dit_t, dit_f]; try simp -dsimp [go_sem]))
      refine Jn1.mk fun K hK => ?_
      obtain ⟨pre, hpre⟩ : ∃ pre : List UInt8, pre = if neg then [45] else [] := ⟨_, rfl⟩
      have hpl : pre.length ≤ 1 := by rw [hpre]; split <;> simp
      have hstart : ∀ o1 W, Owns W w.heap.size 5 o1 (pre.map bv) → Ext w W → K o1 W := by
        intro o1 W ho hW
        refine hK _ _ ?_
        ((try simp -dsimp [go_sem]); repeat (simp -dsimp (disch := omega) only [w64, wu64, dlt_t, dlt_f, dle_t, dle_f, deq_t, deq_f, beq_t, beq_f, bne_t, bne_f, nlt_t, nlt_f, nle_t, nle_f, neq_t, neq_f, nbeq_t, nbeq_f, nbne_t, nbne_f, it_t, it_f, dit_t, dit_f]; try simp -dsimp [go_sem]))
        obtain ⟨I, hI⟩ : ∃ I : Value → Value → World → Prop, I = (fun o i W => ∃ (j : Nat) , j ≤ xs.length ∧ i = .int .i64 ((xs.length : Int) - 1 - j) ∧ Owns W w.heap.size 5 o ((pre ++ (txt xs).take j).map bv) ∧ Ext w W) := ⟨_, rfl⟩
        obtain ⟨μ, hμ⟩ : ∃ μ : Value → Value → World → Nat, μ = (fun _ i _ => match i with | .int _ i' => (i' + 1).toNat | _ => 0) := ⟨_, rfl⟩
        refine Lp2.mk I μ (by rw [hI]; exact ⟨0, by omega, by congr 1; omega, by simpa using ho, hW⟩) ?_
        intro o2 i W2 hh
        rw [hI] at hh
        obtain ⟨j, hj, rfl, ho2, hW2⟩ := hh
        have htl := txt_length xs
        by_cases hjj : j = xs.length
        · have hcv := cv_str ho2.slAt
          rw [hjj, List.take_of_length_le (by omega), hpre, txt_itoa hn neg hne] at hcv
          ((try simp -dsimp [go_sem, hcv]); repeat (simp -dsimp (disch := omega) only [w64, wu64, dlt_t, dlt_f, dle_t, dle_f, deq_t, deq_f, beq_t, beq_f, bne_t, bne_f, nlt_t, nlt_f, nle_t, nle_f, neq_t, neq_f, nbeq_t, nbeq_f, nbne_t, nbne_f, it_t, it_f, dit_t, dit_f]; try simp -dsimp [go_sem, hcv]))
          refine Ret.mk ⟨hW2, ?_⟩
          congr 3
          simp; omega
        · have hcell : w.cell? ⟨b, o + (xs.length - 1 - j), none⟩ = some (iv (xs[xs.length - 1 - j]'(by omega))) := hcells (xs.length - 1 - j) _ (by simp)
          have hcell2 := hW2.cell' hcell
          obtain ⟨d, hd⟩ : ∃ d, d = xs[xs.length - 1 - j]'(by omega) := ⟨_, rfl⟩
          rw [← hd] at hcell2
          have hdr : 0 ≤ d ∧ d < 10 := hn.1 d (by rw [hd]; exact List.getElem_mem _)
          have hnat : ((xs.length : Int) - 1 - j).toNat = xs.length - 1 - j := by omega
          have hw8 := wu8 (x := 48 + d) (by omega) (by omega)
          ((try simp -dsimp [go_sem, hcell2, hnat, hw8]); repeat (simp -dsimp (disch := omega) only [w64, wu64, dlt_t, dlt_f, dle_t, dle_f, deq_t, deq_f, beq_t, beq_f, bne_t, bne_f, nlt_t, nlt_f, nle_t, nle_f, neq_t, neq_f, nbeq_t, nbeq_f, nbne_t, nbne_f, it_t, it_f, dit_t, dit_f]; try simp -dsimp [go_sem, hcell2, hnat, hw8]))
          have hsz := hW2.size
          refine ap_one sliB (by decide) ho2 rfl rfl (by simp; omega) hsz fun v' W' ho' hb' _ => ?_
          ((try simp -dsimp [go_sem]); repeat (simp -dsimp (disch := omega) only [w64, wu64, dlt_t, dlt_f, dle_t, dle_f, deq_t, deq_f, beq_t, beq_f, bne_t, bne_f, nlt_t, nlt_f, nle_t, nle_f, neq_t, neq_f, nbeq_t, nbeq_f, nbne_t, nbne_f, it_t, it_f, dit_t, dit_f]; try simp -dsimp [go_sem]))
          have hstep : (txt xs).take (j + 1) = (txt xs).take j ++ [dch d] := by
            rw [List.take_add_one]
            congr 1
            have : (txt xs)[j]? = some (dch d) := by
              unfold txt
              rw [List.getElem?_map, List.getElem?_reverse (by omega), List.getElem?_eq_getElem (by omega), ← hd]
              rfl
            rw [this]; rfl
          rw [hI, hμ]
          refine ⟨⟨j + 1, by omega, by congr 1; omega, ?_, hW2.trans hb'⟩, ?_⟩
          · rw [hstep, ← List.append_assoc, List.map_append]
            have : [bv (dch d)] = [Value.int .u8 (48 + d)] := by
              simp only [bv, dch_toNat hdr]
              congr 2; omega
            simpa [this] using ho'
          · simp only []; omega
      cases neg with
      | true =>
        ((try simp -dsimp [go_sem]); repeat (simp -dsimp (disch := omega) only [w64, wu64, dlt_t, dlt_f, dle_t, dle_f, deq_t, deq_f, beq_t, beq_f, bne_t, bne_f, nlt_t, nlt_f, nle_t, nle_f, neq_t, neq_f, nbeq_t, nbeq_f, nbne_t, nbne_f, it_t, it_f, dit_t, dit_f]; try simp -dsimp [go_sem]))
        refine ap_one sliB (by decide) (Owns.nil w w.heap.size _) rfl rfl (by simp) (Nat.le_refl _) fun v' W' ho' hb' _ => ?_
        ((try simp -dsimp [go_sem]); repeat (simp -dsimp (disch := omega) only [w64, wu64, dlt_t, dlt_f, dle_t, dle_f, deq_t, deq_f, beq_t, beq_f, bne_t, bne_f, nlt_t, nlt_f, nle_t, nle_f, neq_t, neq_f, nbeq_t, nbeq_f, nbne_t, nbne_f, it_t, it_f, dit_t, dit_f]; try simp -dsimp [go_sem]))
        refine hstart _ _ ?_ hb'
        rw [hpre]; exact ho'
      | false =>
        ((try simp -dsimp [go_sem]); repeat (simp -dsimp (disch := omega) only [w64, wu64, dlt_t, dlt_f, dle_t, dle_f, deq_t, deq_f, beq_t, beq_f, bne_t, bne_f, nlt_t, nlt_f, nle_t, nle_f, neq_t, neq_f, nbeq_t, nbeq_f, nbne_t, nbne_f, it_t, it_f, dit_t, dit_f]; try simp -dsimp [go_sem]))
        refine hstart _ _ ?_ (.refl _)
        rw [hpre]; exact Owns.nil _ _ _
end Go.Proofs.YtocilcjojdjfdaaGreatDoor
namespace Go.Proofs.YtocilcjojdjfdaaGreatDoor
open Go Go.Eng Go.Proofs Go.Num Go.RowKit
set_option maxRecDepth 100000
set_option linter.unusedVariables false
theorem dig_byte (b : UInt8) : 0 ≤ (IntKind.i64.wrap (b.toNat : Int)).tmod 10 ∧ (IntKind.i64.wrap (b.toNat : Int)).tmod 10 < 10 := by
  have := b.toNat_lt
  rw [w64 (by omega) (by omega), Int.tmod_eq_emod_of_nonneg (by omega)]
  omega
theorem natAbs_sg (b : Bool) (x : Int) : (sg b x).natAbs = x.natAbs := by cases b <;> simp [sg]
theorem c_Made {s : List UInt8} {m : Nat} {w : World} (hm : m ≤ 200) :
    Calls Tryz.prog 13 #[str s, .int .i64 m] w (Ret fun r w' => Ext w w' ∧ ∃ z : Int, z.natAbs < 10 ^ m ∧ r = str (Lib.itoa z)) := by
  apply e_ref03_Made
  unfold s_ref03_Made
  obtain ⟨I, hI⟩ : ∃ I : Value → Value → World → Prop, I = (fun l i W => ∃ xs : List Int, xs.length ≤ m ∧ Dg10 xs ∧ i = .int .i64 xs.length ∧ Owns W w.heap.size 3 l (xs.map iv) ∧ Ext w W) := ⟨_, rfl⟩
  obtain ⟨μ, hμ⟩ : ∃ μ : Value → Value → World → Nat, μ = (fun _ i _ => match i with | .int _ i' => m - i'.toNat | _ => 0) := ⟨_, rfl⟩
  refine Lp2.mk I μ (by rw [hI]; exact ⟨[], by simp, by simp [Dg10], rfl, Owns.nil _ _ _, .refl _⟩) ?_
  intro l i W hh
  rw [hI] at hh
  obtain ⟨xs, hxm, hd, rfl, ho, hW⟩ := hh
  have hwsz := hW.size
  have fin : ∀ b : Bool, ¬ (xs.length < s.length ∧ xs.length < m) → Cl Tryz.prog 37 #[l] W.drew (Pk (Ret fun r w' => Ext w w' ∧ ∃ z : Int, z.natAbs < 10 ^ m ∧ r = str (Lib.itoa z))) fun t38 w_1 =>
    Cl Tryz.prog 36 #[.bool b, t38] w_1 (Pk (Ret fun r w' => Ext w w' ∧ ∃ z : Int, z.natAbs < 10 ^ m ∧ r = str (Lib.itoa z))) fun t39 w_2 =>
      ExP t39 0 fun t40 => ExP t39 1 fun t41 => Ret (fun r w' => Ext w w' ∧ ∃ z : Int, z.natAbs < 10 ^ m ∧ r = str (Lib.itoa z)) (Ending.returned t40) w_2 := by
    intro b _
    have hdr : Ext W W.drew := Ext.dr (.refl _)
    refine Cl_i n_ref03_trim (c_rtrim (xs := xs) (ho.ext hdr).slAt (by omega)) ?_
    rintro v _ ⟨hv, rfl, _⟩
    refine Cl_i n_ref03_text (c_rtext (neg := b) hv (Nrm10.trimL hd) (by have := trimL_len xs; omega)) ?_
    rintro _ W2 ⟨hW2, rfl⟩
    ((try simp -dsimp [go_sem]); repeat (simp -dsimp (disch := omega) only [w64, wu64, dlt_t, dlt_f, dle_t, dle_f, deq_t, deq_f, beq_t, beq_f, bne_t, bne_f, nlt_t, nlt_f, nle_t, nle_f, neq_t, neq_f, nbeq_t, nbeq_f, nbne_t, nbne_f, it_t, it_f, dit_t, dit_f]; try simp -dsimp [go_sem]))
    refine Ret.mk ⟨(hW.tr hdr).tr hW2, _, ?_, rfl⟩
    rw [natAbs_sg, num10_trimL]
    have h1 := num10_lt hd
    have h2 := num10_nonneg hd
    have h3 : (10 : Nat) ^ xs.length ≤ 10 ^ m := Nat.pow_le_pow_right (by decide) hxm
    have h4 : ((10 ^ xs.length : Nat) : Int) = (10 : Int) ^ xs.length := by simp
    omega
  by_cases h1 : xs.length < s.length
  · by_cases h2 : xs.length < m
    · have step : ∀ d : Int, 0 ≤ d → d < 10 → Bs Tryz.prog 44 1 [(0, .int .i64 d)] W fun t26 w =>
        Bt Tryz.prog .append #[44, 44] 44 #[l, t26] w fun t27 w =>
          I t27 (Value.int IntKind.i64 (↑xs.length + 1)) w ∧ μ t27 (Value.int IntKind.i64 (↑xs.length + 1)) w < μ l (Value.int IntKind.i64 ↑xs.length) W := by
        intro d hd0 hd1
        refine ap_one sliI (by decide) ho rfl rfl (by simp; omega) hwsz fun v' W' ho' hb' _ => ?_
        rw [hI, hμ]
        refine ⟨⟨xs ++ [d], by simp; omega, ?_, by simp, by simpa using ho', hW.trans hb'⟩, by simp only []; omega⟩
        intro x hx
        rcases List.mem_append.1 hx with h | h
        · exact hd x h
        · simp at h; omega
      ((try simp -dsimp [go_sem, size_str]); repeat (simp -dsimp (disch := omega) only [w64, wu64, dlt_t, dlt_f, dle_t, dle_f, deq_t, deq_f, beq_t, beq_f, bne_t, bne_f, nlt_t, nlt_f, nle_t, nle_f, neq_t, neq_f, nbeq_t, nbeq_f, nbne_t, nbne_f, it_t, it_f, dit_t, dit_f]; try simp -dsimp [go_sem, size_str]))
      exact step _ (dig_byte _).1 (dig_byte _).2
    · ((try simp -dsimp [go_sem, size_str]); repeat (simp -dsimp (disch := omega) only [w64, wu64, dlt_t, dlt_f, dle_t, dle_f, deq_t, deq_f, beq_t, beq_f, bne_t, bne_f, nlt_t, nlt_f, nle_t, nle_f, neq_t, neq_f, nbeq_t, nbeq_f, nbne_t, nbne_f, it_t, it_f, dit_t, dit_f]; try simp -dsimp [go_sem, size_str]))
      cases s with
      | nil => simp at h1
      | cons c s =>
        ((try simp -dsimp [go_sem, size_str]); repeat (simp -dsimp (disch := omega) only [w64, wu64, dlt_t, dlt_f, dle_t, dle_f, deq_t, deq_f, beq_t, beq_f, bne_t, bne_f, nlt_t, nlt_f, nle_t, nle_f, neq_t, neq_f, nbeq_t, nbeq_f, nbne_t, nbne_f, it_t, it_f, dit_t, dit_f]; try simp -dsimp [go_sem, size_str]))
        exact fin _ (by omega)
  · ((try simp -dsimp [go_sem, size_str]); repeat (simp -dsimp (disch := omega) only [w64, wu64, dlt_t, dlt_f, dle_t, dle_f, deq_t, deq_f, beq_t, beq_f, bne_t, bne_f, nlt_t, nlt_f, nle_t, nle_f, neq_t, neq_f, nbeq_t, nbeq_f, nbne_t, nbne_f, it_t, it_f, dit_t, dit_f]; try simp -dsimp [go_sem, size_str]))
    cases s with
    | nil =>
      ((try simp -dsimp [go_sem, size_str]); repeat (simp -dsimp (disch := omega) only [w64, wu64, dlt_t, dlt_f, dle_t, dle_f, deq_t, deq_f, beq_t, beq_f, bne_t, bne_f, nlt_t, nlt_f, nle_t, nle_f, neq_t, neq_f, nbeq_t, nbeq_f, nbne_t, nbne_f, it_t, it_f, dit_t, dit_f]; try simp -dsimp [go_sem, size_str]))
      exact fin _ (by omega)
    | cons c s =>
      ((try simp -dsimp [go_sem, size_str]); repeat (simp -dsimp (disch := omega) only [w64, wu64, dlt_t, dlt_f, dle_t, dle_f, deq_t, deq_f, beq_t, beq_f, bne_t, bne_f, nlt_t, nlt_f, nle_t, nle_f, neq_t, neq_f, nbeq_t, nbeq_f, nbne_t, nbne_f, it_t, it_f, dit_t, dit_f]; try simp -dsimp [go_sem, size_str]))
      exact fin _ (by omega)
end Go.Proofs.YtocilcjojdjfdaaGreatDoor
namespace Go.Proofs.YtocilcjojdjfdaaGreatDoor
open Go Go.Eng Go.Proofs Go.Num Go.RowKit
set_option maxRecDepth 100000
set_option linter.unusedVariables false
def Sz (k : Nat) (z : Int) : Prop := z.natAbs < 10 ^ k
theorem Sz.mono {j k : Nat} {z : Int} (h : Sz j z) (hk : j ≤ k) : Sz k z := Nat.lt_of_lt_of_le h (Nat.pow_le_pow_right (by decide) hk)
theorem Sz.add {k : Nat} {x y : Int} (hx : Sz k x) (hy : Sz k y) : Sz (k + 1) (x + y) := by
  unfold Sz at *
  rw [Nat.pow_succ]; omega
theorem Sz.neg {k : Nat} {x : Int} (hx : Sz k x) : Sz k (-x) := by unfold Sz at *; omega
theorem Sz.sub {k : Nat} {x y : Int} (hx : Sz k x) (hy : Sz k y) : Sz (k + 1) (x - y) := by
  unfold Sz at *
  rw [Nat.pow_succ]; omega
theorem Sz.mul {j k : Nat} {x y : Int} (hx : Sz j x) (hy : Sz k y) : Sz (j + k) (x * y) := by
  unfold Sz at *
  rw [Int.natAbs_mul, Nat.pow_add]
  exact Nat.mul_lt_mul'' hx hy
theorem Sz.max {k : Nat} {z : Int} (h : Sz k z) (hk : k ≤ 200) : z.natAbs < MaxI := by
  have := h.mono hk
  unfold MaxI; exact this
theorem Sz.of {k : Nat} {z : Int} (h : z.natAbs < MaxI) : Sz 200 z := by unfold MaxI at h; exact h
theorem Sz.zero (k : Nat) : Sz k 0 := Nat.pow_pos (by decide)
theorem Sz.one {k : Nat} (hk : 1 ≤ k) : Sz k 1 := Sz.mono (j := 1) (by unfold Sz; decide) hk
theorem resT {z : Int} (h : z.natAbs < MaxI) : resI z = .tuple #[str (Lib.itoa z), .int .i64 0] := resI_small h
section
variable {x y s : Int} {w : World} (hx : x.natAbs < MaxI) (hy : y.natAbs < MaxI) (hs : s.natAbs < MaxI) (ht : Tab w)
include hx hy hs ht
theorem k_Add (e : x + y = s) : Calls Tryz.prog 14 #[str (Lib.itoa x), str (Lib.itoa y)] w (Ret fun r w' => Ext w w' ∧ r = .tuple #[str (Lib.itoa s), .int .i64 0]) :=
  Ret.lit (c_Add hx hy ht) (by rw [e, resT hs])
theorem k_Sub (e : x - y = s) : Calls Tryz.prog 16 #[str (Lib.itoa x), str (Lib.itoa y)] w (Ret fun r w' => Ext w w' ∧ r = .tuple #[str (Lib.itoa s), .int .i64 0]) :=
  Ret.lit (c_Sub hx hy ht) (by rw [e, resT hs])
theorem k_Mul (e : x * y = s) : Calls Tryz.prog 15 #[str (Lib.itoa x), str (Lib.itoa y)] w (Ret fun r w' => Ext w w' ∧ r = .tuple #[str (Lib.itoa s), .int .i64 0]) :=
  Ret.lit (c_Mul hx hy ht) (by rw [e, resT hs])
theorem k_Gcd (e : (Int.gcd x y : Int) = s) : Calls Tryz.prog 20 #[str (Lib.itoa x), str (Lib.itoa y)] w (Ret fun r w' => Ext w w' ∧ r = .tuple #[str (Lib.itoa s), .int .i64 0]) :=
  Ret.lit (c_Gcd hx hy ht) (by rw [e, resT hs])
end
theorem k_Div {x y q r : Int} {w : World} (hx : x.natAbs < MaxI) (hy : y.natAbs < MaxI) (hy0 : y ≠ 0) (ht : Tab w) (e1 : x / y = q) (e2 : x % y = r) :
    Calls Tryz.prog 17 #[str (Lib.itoa x), str (Lib.itoa y)] w (Ret fun v w' => Ext w w' ∧ v = .tuple #[str (Lib.itoa q), str (Lib.itoa r), .int .i64 0]) := by
  refine (c_Div hx hy hy0 ht).mono ?_
  rintro _ w' ⟨v, rfl, h1, h2⟩
  exact Ret.mk ⟨h1, by rw [h2, e1, e2]⟩
theorem k_Compare {x y c : Int} {w : World} (hx : x.natAbs < MaxI) (hy : y.natAbs < MaxI) (e : cmpI x y = c) :
    Calls Tryz.prog 18 #[str (Lib.itoa x), str (Lib.itoa y)] w (Ret fun r w' => Ext w w' ∧ r = .int .i64 c) :=
  Ret.lit (c_Compare hx hy) (by rw [e])
theorem law_Ring {a b c : List UInt8} {w : World} (ht : Tab w) :
    Calls Tryz.prog 3 #[str a, str b, str c] w (Ret fun r w' => Ext w w' ∧ r = .bool true) := by
  apply e_law03_IntegerRing
  unfold s_law03_IntegerRing
  refine Cl_i n_law03_sane (c_sane ht) ?_
  rintro _ w1 ⟨h1, rfl⟩
  refine Cl_i n_ref03_Made (c_Made (m := 60) (by decide)) ?_
  rintro _ w2 ⟨h2, x, zx, rfl⟩
  have h2 := h1.tr h2
  refine Cl_i n_ref03_Made (c_Made (m := 60) (by decide)) ?_
  rintro _ w3 ⟨h3, y, zy, rfl⟩
  have h3 := h2.tr h3
  refine Cl_i n_ref03_Made (c_Made (m := 60) (by decide)) ?_
  rintro _ w4 ⟨h4, z, zz, rfl⟩
  have h4 := h3.tr h4
  have zx : Sz 60 x := zx
  have zy : Sz 60 y := zy
  have zz : Sz 60 z := zz
  have mx := zx.max (by decide)
  have my := zy.max (by decide)
  have mz := zz.max (by decide)
  have mxy := (zx.add zy).max (by decide)
  have myz := (zy.add zz).max (by decide)
  have mxyz := ((zx.add zy).add (zz.mono (k := 61) (by decide))).max (by decide)
  have pxy := (zx.mul zy).max (by decide)
  have pyz := (zy.mul zz).max (by decide)
  have pxz := (zx.mul zz).max (by decide)
  have pxyz := ((zx.mul zy).mul zz).max (by decide)
  have pl := ((zx.add zy).mul zz).max (by decide)
  have md := (zx.sub zy).max (by decide)
  have m1 := small_MaxI (z := 1) (by decide)
  have m0 := small_MaxI (z := 0) (by decide)
  refine Cl2 n_integer_Add (k_Add (s := x + y) mx my mxy (ht.ext h4) rfl) fun w5 h5 => ?_
  have h5 := h4.tr h5
  refine Cl2 n_integer_Add (k_Add (s := x + y) my mx mxy (ht.ext h5) (Int.add_comm y x)) fun w6 h6 => ?_
  have h6 := h5.tr h6
  refine Cl2 n_integer_Add (k_Add (s := x + y + z) mxy mz mxyz (ht.ext h6) rfl) fun w7 h7 => ?_
  have h7 := h6.tr h7
  refine Cl2 n_integer_Add (k_Add (s := y + z) my mz myz (ht.ext h7) rfl) fun w8 h8 => ?_
  have h8 := h7.tr h8
  refine Cl2 n_integer_Add (k_Add (s := x + y + z) mx myz mxyz (ht.ext h8) (Int.add_assoc x y z).symm) fun w9 h9 => ?_
  have h9 := h8.tr h9
  refine Cl2 n_integer_Mul (k_Mul (s := x * y) mx my pxy (ht.ext h9) rfl) fun w10 h10 => ?_
  have h10 := h9.tr h10
  refine Cl2 n_integer_Mul (k_Mul (s := x * y) my mx pxy (ht.ext h10) (Int.mul_comm y x)) fun w11 h11 => ?_
  have h11 := h10.tr h11
  refine Cl2 n_integer_Mul (k_Mul (s := x * y * z) pxy mz pxyz (ht.ext h11) rfl) fun w12 h12 => ?_
  have h12 := h11.tr h12
  refine Cl2 n_integer_Mul (k_Mul (s := y * z) my mz pyz (ht.ext h12) rfl) fun w13 h13 => ?_
  have h13 := h12.tr h13
  refine Cl2 n_integer_Mul (k_Mul (s := x * y * z) mx pyz pxyz (ht.ext h13) (Int.mul_assoc x y z).symm) fun w14 h14 => ?_
  have h14 := h13.tr h14
  refine Cl2 n_integer_Mul (k_Mul (s := (x + y) * z) mxy mz pl (ht.ext h14) rfl) fun w15 h15 => ?_
  have h15 := h14.tr h15
  refine Cl2 n_integer_Mul (k_Mul (s := x * z) mx mz pxz (ht.ext h15) rfl) fun w16 h16 => ?_
  have h16 := h15.tr h16
  refine Cl2 n_integer_Add (k_Add (s := (x + y) * z) pxz pyz pl (ht.ext h16) (Int.add_mul x y z).symm) fun w17 h17 => ?_
  have h17 := h16.tr h17
  refine Cl2 n_integer_Sub (k_Sub (s := x - y) mx my md (ht.ext h17) rfl) fun w18 h18 => ?_
  have h18 := h17.tr h18
  refine Cl2 n_integer_Add (k_Add (s := x) md my mx (ht.ext h18) (Int.sub_add_cancel x y)) fun w19 h19 => ?_
  have h19 := h18.tr h19
  refine Cl2 n_integer_Mul ((l1 ▸ k_Mul (x := x) (y := 1) (s := x) mx m1 mx (ht.ext h19) (Int.mul_one x))) fun w20 h20 => ?_
  have h20 := h19.tr h20
  refine Cl2 n_integer_Mul ((itoa0 ▸ k_Mul (x := x) (y := 0) (s := 0) mx m0 m0 (ht.ext h20) (Int.mul_zero x))) fun w21 h21 => ?_
  have h21 := h20.tr h21
  ((try simp -dsimp [go_sem]); repeat (simp -dsimp (disch := omega) only [w64, wu64, dlt_t, dlt_f, dle_t, dle_f, deq_t, deq_f, beq_t, beq_f, bne_t, bne_f, nlt_t, nlt_f, nle_t, nle_f, neq_t, neq_f, nbeq_t, nbeq_f, nbne_t, nbne_f, it_t, it_f, dit_t, dit_f]; try simp -dsimp [go_sem]))
  exact Ret.mk ⟨h21, rfl⟩
end Go.Proofs.YtocilcjojdjfdaaGreatDoor
