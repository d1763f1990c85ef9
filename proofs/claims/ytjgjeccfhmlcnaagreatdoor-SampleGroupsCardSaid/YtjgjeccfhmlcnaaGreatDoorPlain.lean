/-
  Contracts and plain lemmas. By an AI agent.
-/
import Derived.Lib.ItoaNum
import Derived.Lib.Strings
import Derived.Lib.Atoi
import Derived.Lib.AtoiAll
set_option linter.unusedSimpArgs false
set_option linter.unusedVariables false
set_option linter.unusedSectionVars false
namespace Go.Num
def num : List Int → Int
 | [] => 0
 | d :: ds => d + 10000 * num ds
def Dg (xs : List Int) : Prop := ∀ d ∈ xs, 0 ≤ d ∧ d < 10000
def trimL : List Int → List Int
 | [] => []
 | d :: ds => if d = 0 ∧ trimL ds = [] then [] else d :: trimL ds
def Nrm (xs : List Int) : Prop := Dg xs ∧ trimL xs = xs
theorem num_append (xs ys : List Int) : num (xs ++ ys) = num xs + 10000 ^ xs.length * num ys := by
 induction xs with
 | nil => simp [num]
 | cons d ds ih => simp only [List.cons_append, num, ih, List.length_cons, Int.pow_succ]; grind
theorem num_nonneg {xs : List Int} (h : Dg xs) : 0 ≤ num xs := by
 induction xs with
 | nil => simp [num]
 | cons d ds ih =>
  have h1 := h d (by simp)
  have h2 := ih fun x hx => h x (by simp [hx])
  simp only [num]; omega
theorem num_lt {xs : List Int} (h : Dg xs) : num xs < 10000 ^ xs.length := by
 induction xs with
 | nil => simp [num]
 | cons d ds ih =>
  have h1 := h d (by simp)
  have h2 := ih fun x hx => h x (by simp [hx])
  simp only [num, List.length_cons, Int.pow_succ]; omega
theorem num_trimL (xs : List Int) : num (trimL xs) = num xs := by
 induction xs with
 | nil => rfl
 | cons d ds ih =>
  simp only [trimL]
  split
  ·next h => rw [h.2] at ih; simp only [num] at ih ⊢; omega
  ·simp only [num, ih]
theorem trimL_trimL (xs : List Int) : trimL (trimL xs) = trimL xs := by
 induction xs with
 | nil => rfl
 | cons d ds ih =>
  simp only [trimL]
  split
  ·rfl
  ·next h => simp only [trimL, ih, h, ↓reduceIte]
theorem trimL_mem {xs : List Int} {d : Int} (h : d ∈ trimL xs) : d ∈ xs := by
 induction xs with
 | nil => exact h
 | cons x xs ih =>
  simp only [trimL] at h
  split at h
  ·simp at h
  ·rcases List.mem_cons.1 h with h | h
   ·simp [h]
   ·simp [ih h]
theorem Nrm.trimL {xs : List Int} (h : Dg xs) : Nrm (trimL xs) := ⟨fun d hd => h d (trimL_mem hd), trimL_trimL xs⟩
theorem trimL_snoc_zero (xs : List Int) : trimL (xs ++ [0]) = trimL xs := by
 induction xs with
 | nil => rfl
 | cons d ds ih => simp only [List.cons_append, trimL, ih]
theorem trimL_snoc {d : Int} (hd : d ≠ 0) (xs : List Int) : trimL (xs ++ [d]) = xs ++ [d] := by
 induction xs with
 | nil => simp [trimL, hd]
 | cons x xs ih => simp [trimL, ih]
theorem Nrm.tail {d : Int} {ds : List Int} (h : Nrm (d :: ds)) : Nrm ds := by
 refine ⟨fun x hx => h.1 x (by simp [hx]), ?_⟩
 have := h.2
 simp only [Num.trimL] at this
 split at this
 ·simp at this
 ·simpa using this
theorem Nrm.pos {xs : List Int} (h : Nrm xs) (hne : xs ≠ []) : 0 < num xs := by
 induction xs with
 | nil => exact absurd rfl hne
 | cons d ds ih =>
  have hd := h.1 d (by simp)
  by_cases hds : ds = []
  ·subst hds
   have := h.2
   simp only [Num.trimL] at this
   by_cases h0 : d = 0
   ·simp [h0] at this
   ·simp only [num]; omega
  ·have := ih h.tail hds
   simp only [num]; omega
theorem Nrm.eq {xs ys : List Int} (hx : Nrm xs) (hy : Nrm ys) (h : num xs = num ys) : xs = ys := by
 induction xs generalizing ys with
 | nil =>
  cases ys with
  | nil => rfl
  | cons y ys => have := hy.pos (by simp); rw [← h] at this; simp [num] at this
 | cons x xs ih =>
  cases ys with
  | nil => have := hx.pos (by simp); rw [h] at this; simp [num] at this
  | cons y ys =>
   have h1 := hx.1 x (by simp)
   have h2 := hy.1 y (by simp)
   simp only [num] at h
   have hxy : x = y := by omega
   have : num xs = num ys := by omega
   rw [hxy, ih hx.tail hy.tail this]
theorem Nrm.ge {xs : List Int} (h : Nrm xs) (hne : xs ≠ []) : 10000 ^ (xs.length - 1) ≤ num xs := by
 induction xs with
 | nil => exact absurd rfl hne
 | cons d ds ih =>
  have hd := h.1 d (by simp)
  by_cases hds : ds = []
  ·subst hds
   have := h.pos (by simp)
   simp only [num, List.length_cons, List.length_nil] at this ⊢
   simp at this ⊢; omega
  ·have := ih h.tail hds
   obtain ⟨x, xs, rfl⟩ := List.exists_cons_of_ne_nil hds
   simp only [List.length_cons, Nat.add_sub_cancel] at this ⊢
   rw [Int.pow_succ]
   simp only [num] at this ⊢; omega
theorem pow_mono {a b : Nat} (h : a ≤ b) : (10000 : Int) ^ a ≤ 10000 ^ b := by
 obtain ⟨k, rfl⟩ := Nat.exists_eq_add_of_le h
 induction k with
 | zero => simp
 | succ k ih =>
  have := ih (by omega)
  rw [← Nat.add_assoc, Int.pow_succ]
  have h0 : (0 : Int) < 10000 ^ (a + k) := Int.pow_pos (by decide)
  omega
theorem Nrm.len {xs : List Int} (h : Nrm xs) {k : Nat} (hk : num xs < 10000 ^ k) : xs.length ≤ k := by
 by_cases hne : xs = []
 ·subst hne; simp
 ·have h1 := h.ge hne
  refine Classical.byContradiction fun hc => ?_
  have := pow_mono (a := k) (b := xs.length - 1) (by omega)
  omega
def tot (D : Nat → Int) : Nat → Int
 | 0 => 0
 | n + 1 => tot D n + D n * 10000 ^ n
theorem tot_stay {D : Nat → Int} {n : Nat} (h : ∀ i, n ≤ i → D i = 0) {m : Nat} (hm : n ≤ m) : tot D m = tot D n := by
 obtain ⟨k, rfl⟩ := Nat.exists_eq_add_of_le hm
 induction k with
 | zero => rfl
 | succ k ih => rw [← Nat.add_assoc]; simp only [tot]; rw [ih (by omega), h (n + k) (by omega)]; omega
def dig (xs : List Int) (i : Nat) : Int := xs[i]?.getD 0
theorem tot_dig_aux (xs : List Int) (n : Nat) : tot (dig xs) n = num (xs.take n) := by
 induction n with
 | zero => simp [tot, num]
 | succ n ih =>
  simp only [tot, ih]
  rw [List.take_add_one, num_append]
  unfold dig
  by_cases h : n < xs.length
  ·rw [List.getElem?_eq_getElem h]
   simp only [Option.getD_some, Option.toList_some, num, List.length_take, Nat.min_eq_left (Nat.le_of_lt h)]
   rw [Int.mul_comm]; simp
  ·rw [List.getElem?_eq_none (by omega)]
   simp [num]
theorem tot_dig {xs : List Int} {n : Nat} (h : xs.length ≤ n) : tot (dig xs) n = num xs := by
 rw [tot_dig_aux, List.take_of_length_le h]
theorem tot_add (D E : Nat → Int) (n : Nat) : tot (fun i => D i + E i) n = tot D n + tot E n := by
 induction n with
 | zero => rfl
 | succ n ih => simp only [tot, ih, Int.add_mul]; omega
theorem tot_sub (D E : Nat → Int) (n : Nat) : tot (fun i => D i - E i) n = tot D n - tot E n := by
 induction n with
 | zero => rfl
 | succ n ih => simp only [tot, ih, Int.sub_mul]; omega
theorem tot_mul (D : Nat → Int) (k : Int) (n : Nat) : tot (fun i => D i * k) n = tot D n * k := by
 induction n with
 | zero => simp [tot]
 | succ n ih => simp only [tot, ih, Int.add_mul]; grind
theorem dig_bound {xs : List Int} (h : Dg xs) (i : Nat) : 0 ≤ dig xs i ∧ dig xs i < 10000 := by
 unfold dig
 cases hx : xs[i]? with
 | none => simp
 | some d => exact h d (List.mem_of_getElem? hx)
theorem dig_out {xs : List Int} {i : Nat} (h : xs.length ≤ i) : dig xs i = 0 := by unfold dig; rw [List.getElem?_eq_none h]; rfl
theorem num_split (xs : List Int) (i : Nat) (h : i ≤ xs.length) : num xs = num (xs.take i) + 10000 ^ i * num (xs.drop i) := by
 conv => lhs; rw [← List.take_append_drop i xs]
 rw [num_append, List.length_take, Nat.min_eq_left h]
theorem Dg.take {xs : List Int} (h : Dg xs) (i : Nat) : Dg (xs.take i) := fun d hd => h d (List.mem_of_mem_take hd)
theorem Dg.drop {xs : List Int} (h : Dg xs) (i : Nat) : Dg (xs.drop i) := fun d hd => h d (List.mem_of_mem_drop hd)
theorem num_lt_of {xs ys : List Int} (hx : Dg xs) (hy : Dg ys) {i : Nat} (h1 : i < xs.length) (h2 : i < ys.length) (hd : xs.drop (i + 1) = ys.drop (i + 1)) (hlt : xs[i] < ys[i]) : num xs < num ys := by
 rw [num_split xs i (by omega), num_split ys i (by omega), List.drop_eq_getElem_cons h1, List.drop_eq_getElem_cons h2, hd]
 simp only [num]
 have a1 := num_lt (hx.take i)
 have a2 := num_nonneg (hy.take i)
 rw [List.length_take, Nat.min_eq_left (by omega)] at a1
 have hp : (0 : Int) < 10000 ^ i := Int.pow_pos (by decide)
 obtain ⟨k, hk⟩ : ∃ k, ys[i] = xs[i] + 1 + k ∧ 0 ≤ k := ⟨ys[i] - xs[i] - 1, by omega, by omega⟩
 rw [hk.1]
 have : (10000 : Int) ^ i * (xs[i] + 1 + k + 10000 * num (ys.drop (i + 1))) = 10000 ^ i * (xs[i] + 10000 * num (ys.drop (i + 1))) + 10000 ^ i + 10000 ^ i * k := by grind
 rw [this]
 have := Int.mul_nonneg (Int.le_of_lt hp) hk.2
 omega
theorem Nrm.lt_of_len {xs ys : List Int} (hx : Nrm xs) (hy : Nrm ys) (h : xs.length < ys.length) : num xs < num ys := by
 have h1 := num_lt hx.1
 have h2 := hy.ge (by intro hc; subst hc; simp at h)
 have := pow_mono (a := xs.length) (b := ys.length - 1) (by omega)
 omega
theorem Nrm.cons {d : Int} {xs : List Int} (h : Nrm xs) (hne : xs ≠ []) (h0 : 0 ≤ d) (h1 : d < 10000) : Nrm (d :: xs) := by
 refine ⟨fun x hx => ?_, ?_⟩
 ·rcases List.mem_cons.1 hx with rfl | hx
  ·exact ⟨h0, h1⟩
  ·exact h.1 x hx
 ·simp only [Num.trimL, h.2]
  rw [if_neg fun hc => hne hc.2]
open Go.Lib
theorem snocInd {α : Type} {p : List α → Prop} (l : List α) (nil : p []) (append_singleton : ∀ l a, p l → p (l ++ [a])) : p l := by
 have h : ∀ m : List α, p m.reverse := by
  intro m
  induction m with
  | nil => exact nil
  | cons a m ih => rw [List.reverse_cons]; exact append_singleton _ _ ih
 simpa using h l.reverse
theorem head_app {α : Type} {l : List α} (m : List α) (h : l ≠ []) : (l ++ m).head? = l.head? := by
 cases l with
 | nil => exact absurd rfl h
 | cons a l => rfl
def isD (b : UInt8) : Prop := 48 ≤ b.toNat ∧ b.toNat ≤ 57
instance (b : UInt8) : Decidable (isD b) := by unfold isD; infer_instance
def dv (l : List UInt8) : Nat := l.foldl (fun a b => a * 10 + (b.toNat - 48)) 0
theorem dv_snoc (l : List UInt8) (b : UInt8) : dv (l ++ [b]) = dv l * 10 + (b.toNat - 48) := by simp [dv, List.foldl_append]
theorem dv_append (l m : List UInt8) : dv (l ++ m) = dv l * 10 ^ m.length + dv m := by
 induction m using snocInd with
 | nil => simp [dv]
 | append_singleton m b ih =>
  rw [← List.append_assoc, dv_snoc, ih, dv_snoc]
  simp only [List.length_append, List.length_cons, List.length_nil, Nat.pow_succ]
  grind
theorem snoc_cases {α : Type} (l : List α) : l = [] ∨ ∃ m b, l = m ++ [b] := by
 rcases List.eq_nil_or_concat l with h | ⟨m, b, h⟩
 ·exact .inl h
 ·exact .inr ⟨m, b, by simpa using h⟩
theorem toNat_digit {d : Nat} (h : d < 10) : (UInt8.ofNat (48 + d)).toNat = 48 + d := by
 simp only [UInt8.toNat_ofNat']; omega
theorem dec_lt {u : Nat} (h : u < 10) : decDigits u = [UInt8.ofNat (48 + u)] := by rw [decDigits, dif_pos h]
theorem dec_ge {u : Nat} (h : ¬ u < 10) : decDigits u = decDigits (u / 10) ++ [UInt8.ofNat (48 + u % 10)] := by rw [decDigits, dif_neg h]
theorem dec_ne (u : Nat) : decDigits u ≠ [] := by
 by_cases h : u < 10
 ·rw [dec_lt h]; simp
 ·rw [dec_ge h]; simp
theorem dec_isD (u : Nat) : ∀ b ∈ decDigits u, isD b := by
 induction u using Nat.strongRecOn with
 | _ u ih =>
  by_cases h : u < 10
  ·rw [dec_lt h]
   intro b hb
   simp only [List.mem_singleton] at hb
   subst hb
   unfold isD; rw [toNat_digit h]; omega
  ·rw [dec_ge h]
   intro b hb
   rcases List.mem_append.1 hb with hb | hb
   ·exact ih _ (by omega) b hb
   ·simp only [List.mem_singleton] at hb
    subst hb
    unfold isD; rw [toNat_digit (by omega)]; omega
theorem dv_dec (u : Nat) : dv (decDigits u) = u := by
 induction u using Nat.strongRecOn with
 | _ u ih =>
  by_cases h : u < 10
  ·rw [dec_lt h]
   simp only [dv, List.foldl_cons, List.foldl_nil, toNat_digit h]; omega
  ·rw [dec_ge h, dv_snoc, ih _ (by omega), toNat_digit (by omega)]; omega
theorem dv_lt {l : List UInt8} (h : ∀ b ∈ l, isD b) : dv l < 10 ^ l.length := by
 induction l using snocInd with
 | nil => simp [dv]
 | append_singleton l b ih =>
  have h1 := ih fun x hx => h x (by simp [hx])
  have h2 := h b (by simp)
  unfold isD at h2
  rw [dv_snoc]
  simp only [List.length_append, List.length_cons, List.length_nil, Nat.pow_succ]
  omega
theorem byte_ext {a b : UInt8} (h : a.toNat = b.toNat) : a = b := UInt8.toNat_inj.1 h
theorem dec_dv {l : List UInt8} (h : ∀ b ∈ l, isD b) (hne : l ≠ []) (hh : l.length = 1 ∨ l.head? ≠ some 48) : decDigits (dv l) = l := by
 induction l using snocInd with
 | nil => exact absurd rfl hne
 | append_singleton l b ih =>
  have h2 := h b (by simp)
  unfold isD at h2
  have hb : UInt8.ofNat (48 + (b.toNat - 48)) = b := byte_ext (by rw [toNat_digit (by omega)]; omega)
  rw [dv_snoc]
  by_cases hl : l = []
  ·subst hl
   rw [show dv [] = 0 from rfl, dec_lt (by omega)]
   simp only [Nat.zero_mul, Nat.zero_add, hb, List.nil_append]
  ·have hhl : l.head? ≠ some 48 := by
    rcases hh with hh | hh
    ·exact absurd (by simpa using hh) hl
    ·rw [head_app _ hl] at hh; exact hh
   have ih' := ih (fun x hx => h x (by simp [hx])) hl (.inr hhl)
   have hpos : 0 < dv l := by
    refine Nat.pos_of_ne_zero fun hc => ?_
    rw [hc, dec_lt (by decide)] at ih'
    rw [← ih'] at hhl
    exact hhl rfl
   rw [dec_ge (by omega), show (dv l * 10 + (b.toNat - 48)) / 10 = dv l from by omega, show (dv l * 10 + (b.toNat - 48)) % 10 = b.toNat - 48 from by omega, ih', hb]
theorem dec_head {u : Nat} (h : u ≠ 0) : (decDigits u).head? ≠ some 48 := by
 induction u using Nat.strongRecOn with
 | _ u ih =>
  by_cases h1 : u < 10
  ·rw [dec_lt h1]
   intro hc
   simp only [List.head?_cons, Option.some.injEq] at hc
   have := congrArg UInt8.toNat hc
   rw [toNat_digit h1] at this
   have h3 : (48 : UInt8).toNat = 48 := rfl
   omega
  ·rw [dec_ge h1, head_app _ (dec_ne _)]
   exact ih _ (by omega) (by omega)
theorem dec_len {u k : Nat} (hk : 1 ≤ k) : (decDigits u).length ≤ k ↔ u < 10 ^ k := by
 constructor
 ·intro h
  have h1 := dv_lt (dec_isD u)
  rw [dv_dec] at h1
  exact Nat.lt_of_lt_of_le h1 (Nat.pow_le_pow_right (by decide) h)
 ·intro h
  induction k generalizing u with
  | zero => omega
  | succ k ih =>
   by_cases h1 : u < 10
   ·rw [dec_lt h1]; simp
   ·rw [dec_ge h1]
    have hk : 1 ≤ k := by
     refine Nat.pos_of_ne_zero fun hc => ?_
     subst hc; simp at h; omega
    have := ih (u := u / 10) hk (by rw [Nat.pow_succ] at h; omega)
    simp; omega
theorem dec_pad {a d : Nat} (ha : 0 < a) {k : Nat} (hd : d < 10 ^ k) (hk : 1 ≤ k) : decDigits (a * 10 ^ k + d) = decDigits a ++ (List.replicate (k - (decDigits d).length) 48 ++ decDigits d) := by
 have hl := (dec_len hk).2 hd
 rw [← dec_dv (l := decDigits a ++ (List.replicate (k - (decDigits d).length) 48 ++ decDigits d))]
 ·congr 1
  have h0 : ∀ n, dv (List.replicate n 48) = 0 := by
   intro n
   induction n with
   | zero => rfl
   | succ n ih => rw [List.replicate_succ', dv_snoc, ih]; rfl
  rw [dv_append, dv_dec, dv_append, h0, dv_dec]
  simp only [List.length_append, List.length_replicate]
  rw [show k - (decDigits d).length + (decDigits d).length = k from by omega]
  omega
 ·intro b hb
  rcases List.mem_append.1 hb with hb | hb
  ·exact dec_isD a b hb
  ·rcases List.mem_append.1 hb with hb | hb
   ·rw [List.mem_replicate] at hb
    rw [hb.2]; decide
   ·exact dec_isD d b hb
 ·simp [dec_ne]
 ·right
  rw [head_app _ (dec_ne _)]
  exact dec_head (by omega)
@[irreducible] def MaxI : Nat := 10 ^ 200
def validB (s : List UInt8) : Bool :=
 decide ((trimPrefix s [45] ≠ [] ∧ (trimPrefix s [45]).length ≤ 200 ∧ ∀ b ∈ trimPrefix s [45], isD b) ∧ (s = [48] ∨ (trimPrefix s [45]).head? ≠ some 48))
theorem trim_neg (l : List UInt8) : trimPrefix (45 :: l) [45] = l := by simp [trimPrefix, hasPrefix]
theorem trim_pos {l : List UInt8} (h : l.head? ≠ some 45) : trimPrefix l [45] = l := by
 cases l with
 | nil => simp [trimPrefix, hasPrefix]
 | cons a l =>
  have : a ≠ 45 := by simpa using h
  simp [trimPrefix, hasPrefix, this.symm]
theorem dec_head45 (u : Nat) : (decDigits u).head? ≠ some 45 := by
 intro hc
 have := dec_isD u 45 (List.mem_of_mem_head? hc)
 revert this; decide
theorem trim_itoa (z : Int) : trimPrefix (itoa z) [45] = decDigits z.natAbs := by
 unfold itoa
 split
 ·exact trim_neg _
 ·rw [trim_pos (dec_head45 _)]
  congr 1; omega
theorem valid_itoa (z : Int) : validB (itoa z) = decide (z.natAbs < MaxI) := by
 unfold validB
 rw [trim_itoa]
 rw [decide_eq_decide]
 have h1 := dec_ne z.natAbs
 have h2 := dec_isD z.natAbs
 have h3 : (decDigits z.natAbs).length ≤ 200 ↔ z.natAbs < MaxI := by unfold MaxI; exact dec_len (by decide)
 have h4 : itoa z = [48] ∨ (decDigits z.natAbs).head? ≠ some 48 := by
  by_cases hz : z = 0
  ·left; subst hz; unfold itoa; rw [if_neg (by decide)]; exact dec_lt (by decide)
  ·right; exact dec_head (by omega)
 constructor
 ·exact fun h => h3.1 h.1.2.1
 ·exact fun h => ⟨⟨h1, h3.2 h, h2⟩, h4⟩
theorem valid_ex {s : List UInt8} (h : validB s = true) : ∃ z : Int, z.natAbs < MaxI ∧ s = itoa z := by
 have h' := h
 unfold validB at h
 obtain ⟨⟨h1, h2, h3⟩, h4⟩ := of_decide_eq_true h
 by_cases hs : s.head? = some 45
 ·obtain ⟨l, rfl⟩ : ∃ l, s = 45 :: l := by
   cases s with
   | nil => simp at hs
   | cons a l => simp at hs; exact ⟨l, by rw [hs]⟩
  rw [trim_neg] at h1 h2 h3 h4
  have h5 : l.head? ≠ some 48 := by
   rcases h4 with h4 | h4
   ·simp at h4
   ·exact h4
  have h6 := dec_dv h3 h1 (.inr h5)
  have h7 : 0 < dv l := by
   refine Nat.pos_of_ne_zero fun hc => ?_
   rw [hc, dec_lt (by decide)] at h6
   rw [← h6] at h5; exact h5 rfl
  have h8 : 45 :: l = itoa (-(dv l : Int)) := by
   unfold itoa
   rw [if_pos (by omega), show (-(dv l : Int)).natAbs = dv l from by omega, h6]
  refine ⟨_, ?_, h8⟩
  rw [h8, valid_itoa] at h'
  exact of_decide_eq_true h'
 ·rw [trim_pos hs] at h1 h2 h3 h4
  have h6 := dec_dv h3 h1 (by
   rcases h4 with h4 | h4
   ·left; rw [h4]; rfl
   ·exact .inr h4)
  have h8 : s = itoa (dv s : Int) := by
   unfold itoa
   rw [if_neg (by omega), Int.toNat_natCast, h6]
  refine ⟨_, ?_, h8⟩
  rw [h8, valid_itoa] at h'
  exact of_decide_eq_true h'
theorem itoa_inj {x y : Int} (h : itoa x = itoa y) : x = y := by
 have h1 := congrArg (fun l => dv (trimPrefix l [45])) h
 simp only [trim_itoa, dv_dec] at h1
 have h2 := congrArg List.head? h
 by_cases hx : x < 0
 ·by_cases hy : y < 0
  ·omega
  ·unfold itoa at h2
   rw [if_pos hx, if_neg hy] at h2
   exact absurd h2.symm (dec_head45 _)
 ·by_cases hy : y < 0
  ·unfold itoa at h2
   rw [if_neg hx, if_pos hy] at h2
   exact absurd h2 (dec_head45 _)
  ·omega
theorem decFrom_dv (l : List UInt8) (h : ∀ b ∈ l, isD b) (acc : Nat) : decFrom acc l = some (acc * 10 ^ l.length + dv l) := by
 induction l generalizing acc with
 | nil => simp [decFrom, dv]
 | cons b r ih =>
  have hb := h b (by simp)
  have hdv : digitVal b = some (b.toNat - 48) := by unfold digitVal; unfold isD at hb; rw [if_pos hb]
  rw [decFrom, hdv]
  simp only
  rw [ih (fun x hx => h x (by simp [hx]))]
  have : dv (b :: r) = dv [b] * 10 ^ r.length + dv r := dv_append [b] r
  rw [this]
  have h1 : dv [b] = b.toNat - 48 := by simp [dv]
  rw [h1]
  simp only [List.length_cons, Nat.pow_succ]
  congr 1
  grind
theorem atoi_dv {l : List UInt8} (h : ∀ b ∈ l, isD b) (hne : l ≠ []) : atoi l = some (dv l : Int) := by
 cases l with
 | nil => exact absurd rfl hne
 | cons b r =>
  have hb := h b (by simp)
  unfold isD at hb
  have h1 : (b == 45) = false := by
   rw [beq_eq_false_iff_ne]; rintro rfl; revert hb; decide
  have h2 : (b == 43) = false := by
   rw [beq_eq_false_iff_ne]; rintro rfl; revert hb; decide
  unfold atoi
  simp only [h1, h2]
  unfold decNat
  have := decFrom_dv (b :: r) h 0
  simp [this]
theorem dv_seg {D : List UInt8} {k f : Nat} (hk : k ≤ D.length) (hf : f ≤ k) : dv (D.drop f) = dv ((D.take k).drop f) * 10 ^ (D.length - k) + dv (D.drop k) := by
 have : D.drop f = (D.take k).drop f ++ D.drop k := by
  have h1 : D = D.take k ++ D.drop k := (List.take_append_drop k D).symm
  conv => lhs; rw [h1]
  rw [List.drop_append_of_le_length (by simp; omega)]
 rw [this, dv_append]
 simp
theorem num_snoc (xs : List Int) (n : Int) : num (xs ++ [n]) = num xs + 10000 ^ xs.length * n := by
 rw [num_append]; simp [num]
theorem dv_cons (b : UInt8) (r : List UInt8) : dv (b :: r) = (b.toNat - 48) * 10 ^ r.length + dv r := by
 have : dv (b :: r) = dv [b] * 10 ^ r.length + dv r := dv_append [b] r
 rw [this]; simp [dv]
theorem parse_dv (l : List UInt8) (h : ∀ b ∈ l, isD b) (acc : Nat) (ha : acc < 18446744073709551616) :
 parseUint10 acc l = if acc * 10 ^ l.length + dv l < 18446744073709551616 then .ok (acc * 10 ^ l.length + dv l) else .range := by
 induction l generalizing acc with
 | nil => simp [parseUint10, dv, ha]
 | cons b r ih =>
  have hb := h b (by simp)
  have hb' := hb
  unfold isD at hb'
  have hp : 1 ≤ 10 ^ r.length := Nat.one_le_pow _ _ (by decide)
  have hv : acc * 10 ^ (b :: r).length + dv (b :: r) = (acc * 10 + (b.toNat - 48)) * 10 ^ r.length + dv r := by
   rw [dv_cons]; simp only [List.length_cons, Nat.pow_succ]; grind
  have hge : acc * 10 + (b.toNat - 48) ≤ (acc * 10 + (b.toNat - 48)) * 10 ^ r.length := Nat.le_mul_of_pos_right _ hp
  rw [hv, parseUint10, if_pos hb']
  split
  ·rw [if_neg (by omega)]
  ·split
   ·rw [if_neg (by omega)]
   ·exact ih (fun x hx => h x (by simp [hx])) _ (by omega)
theorem atoiAll_itoa (z : Int) : atoiAll (itoa z) = if -9223372036854775808 ≤ z ∧ z ≤ 9223372036854775807 then .ok z else .range := by
 have hD := dec_isD z.natAbs
 have hne := dec_ne z.natAbs
 have hpm : parseMag (decDigits z.natAbs) = if z.natAbs < 18446744073709551616 then .ok z.natAbs else .range := by
  unfold parseMag
  rw [if_neg hne, parse_dv _ hD 0 (by decide), dv_dec]
  simp
 by_cases hz : z < 0
 ·have hi : itoa z = 45 :: decDigits z.natAbs := by unfold itoa; rw [if_pos hz]
  rw [hi]
  unfold atoiAll
  simp only [show (45 : UInt8).toNat = 45 from rfl, or_true, if_true, hpm]
  by_cases h1 : z.natAbs < 18446744073709551616
  ·rw [if_pos h1]
   simp only [not_true, false_and, if_false, true_and, if_true]
   by_cases h2 : 9223372036854775808 < z.natAbs
   ·rw [if_pos h2, if_neg (by omega)]
   ·rw [if_neg h2, if_pos (by omega)]
    congr 1; omega
  ·rw [if_neg h1]
   simp only
   rw [if_neg (by omega)]
 ·have hi : itoa z = decDigits z.natAbs := by unfold itoa; rw [if_neg hz, show z.toNat = z.natAbs from by omega]
  rw [hi]
  obtain ⟨c, r, hcr⟩ := List.exists_cons_of_ne_nil hne
  have hc := hD c (by rw [hcr]; simp)
  unfold isD at hc
  rw [hcr] at hpm ⊢
  unfold atoiAll
  simp only
  rw [if_neg (by omega : ¬ (c.toNat = 43 ∨ c.toNat = 45)), hpm]
  have h45 : ¬ c.toNat = 45 := by omega
  by_cases h1 : z.natAbs < 18446744073709551616
  ·rw [if_pos h1]
   simp only [h45, not_false_eq_true, true_and, false_and, if_false]
   by_cases h2 : 9223372036854775808 ≤ z.natAbs
   ·rw [if_pos h2, if_neg (by omega)]
   ·rw [if_neg h2, if_pos (by omega)]
    congr 1; omega
  ·rw [if_neg h1]
   simp only
   rw [if_neg (by omega)]
structure Fr (p q : Int) : Prop where
 hp : p.natAbs < MaxI
 q0 : 0 < q
 hq : q.natAbs < MaxI
 hg : Int.gcd p q = 1
def sgnTo (d n : Int) : Int := if d < 0 then -n else n
def loN (n d : Int) : Int := sgnTo d n / (Int.gcd n d : Int)
def loD (n d : Int) : Int := sgnTo d d / (Int.gcd n d : Int)
theorem sgnTo_abs (d n : Int) : (sgnTo d n).natAbs = n.natAbs := by unfold sgnTo; split <;> omega
theorem sgnTo_pos {d : Int} (h : d ≠ 0) : 0 < sgnTo d d := by unfold sgnTo; split <;> omega
theorem sgnTo_gcd (n d : Int) : Int.gcd (sgnTo d n) (sgnTo d d) = Int.gcd n d := by
 unfold sgnTo; split
 ·rw [Int.gcd_neg, Int.neg_gcd]
 ·rfl
theorem gcd_dvdN (n d : Int) : (Int.gcd n d : Int) ∣ sgnTo d n := by
 have := Int.gcd_dvd_left (sgnTo d n) (sgnTo d d); rwa [sgnTo_gcd] at this
theorem gcd_dvdD (n d : Int) : (Int.gcd n d : Int) ∣ sgnTo d d := by
 have := Int.gcd_dvd_right (sgnTo d n) (sgnTo d d); rwa [sgnTo_gcd] at this
theorem gcd_pos' {n d : Int} (hd : d ≠ 0) : (0 : Int) < (Int.gcd n d : Int) := by
 have := Int.gcd_pos_iff.2 (.inr hd : n ≠ 0 ∨ d ≠ 0); omega
theorem loN_mul (n d : Int) : loN n d * (Int.gcd n d : Int) = sgnTo d n := Int.ediv_mul_cancel (gcd_dvdN n d)
theorem loD_mul (n d : Int) : loD n d * (Int.gcd n d : Int) = sgnTo d d := Int.ediv_mul_cancel (gcd_dvdD n d)
theorem lo_cross {n d : Int} (hd : d ≠ 0) : loN n d * d = n * loD n d := by
 have hg := gcd_pos' (n := n) hd
 have e1 := loN_mul n d
 have e2 := loD_mul n d
 have key : sgnTo d n * d = n * sgnTo d d := by unfold sgnTo; split <;> simp [Int.neg_mul, Int.mul_neg]
 rw [← e1, ← e2] at key
 refine Int.eq_of_mul_eq_mul_right (a := (Int.gcd n d : Int)) (by omega) ?_
 rw [Int.mul_right_comm, key, Int.mul_assoc]
theorem loD_pos {n d : Int} (hd : d ≠ 0) : 0 < loD n d := by
 have hg := gcd_pos' (n := n) hd
 have e2 := loD_mul n d
 have h := sgnTo_pos hd
 rw [← e2] at h
 exact Int.pos_of_mul_pos_left h hg
theorem abs_le_of_mul {a g s : Int} (hg : 0 < g) (h : a * g = s) : a.natAbs ≤ s.natAbs := by
 rw [← h, Int.natAbs_mul]
 exact Nat.le_mul_of_pos_right _ (by omega)
theorem lo_gcd {n d : Int} (hd : d ≠ 0) : Int.gcd (loN n d) (loD n d) = 1 := by
 have hg := gcd_pos' (n := n) hd
 have h := sgnTo_gcd n d
 rw [← loN_mul n d, ← loD_mul n d, Int.gcd_mul_right] at h
 simp only [Int.natAbs_natCast] at h
 exact Nat.eq_of_mul_eq_mul_right (by omega : 0 < Int.gcd n d) (by rw [h]; simp)
theorem dvd_of_cross {p q p' q' : Int} (g : Int.gcd p q = 1) (h : p * q' = p' * q) : q ∣ q' := by
 have h1 : q.natAbs ∣ p.natAbs * q'.natAbs := by
  rw [← Int.natAbs_mul, h, Int.natAbs_mul]; exact Nat.dvd_mul_left _ _
 have h2 : Nat.Coprime q.natAbs p.natAbs := by
  show Nat.gcd _ _ = 1
  rw [Nat.gcd_comm]; exact g
 exact Int.natAbs_dvd_natAbs.1 (h2.dvd_of_dvd_mul_left h1)
theorem fr_uniq {p q p' q' : Int} (hq : 0 < q) (hq' : 0 < q') (g : Int.gcd p q = 1) (g' : Int.gcd p' q' = 1) (h : p * q' = p' * q) : p = p' ∧ q = q' := by
 have e : q = q' := Int.dvd_antisymm (by omega) (by omega) (dvd_of_cross g h) (dvd_of_cross g' h.symm)
 subst e
 exact ⟨Int.eq_of_mul_eq_mul_right (by omega) h, rfl⟩
theorem lo_of_fr {p q : Int} (hq : 0 < q) (g : Int.gcd p q = 1) : loN p q = p ∧ loD p q = q := by
 unfold loN loD sgnTo
 rw [if_neg (by omega), if_neg (by omega), g]
 simp
theorem lo_eq {n d n' d' : Int} (hd : d ≠ 0) (hd' : d' ≠ 0) (h : n * d' = n' * d) : loN n d = loN n' d' ∧ loD n d = loD n' d' := by
 refine fr_uniq (loD_pos hd) (loD_pos hd') (lo_gcd hd) (lo_gcd hd') ?_
 have e1 := lo_cross (n := n) hd
 have e2 := lo_cross (n := n') hd'
 have : (loN n d * loD n' d') * (d * d') = (loN n' d' * loD n d) * (d * d') := by
  calc (loN n d * loD n' d') * (d * d') = (loN n d * d) * (loD n' d' * d') := by grind
   _ = (n * loD n d) * (loD n' d' * d') := by rw [e1]
   _ = (n * d') * loD n d * loD n' d' := by grind
   _ = (n' * d) * loD n d * loD n' d' := by rw [h]
   _ = (n' * loD n' d') * (loD n d * d) := by grind
   _ = (loN n' d' * d') * (loD n d * d) := by rw [e2]
   _ = _ := by grind
 exact Int.eq_of_mul_eq_mul_right (Int.mul_ne_zero hd hd') this
theorem Fr.lo {p q n d : Int} (a : Fr p q) (hd : d ≠ 0) (h : p * d = n * q) : loN n d = p ∧ loD n d = q := by
 have := lo_eq (n := n) (d := d) (n' := p) (d' := q) hd (by have := a.q0; omega) h.symm
 obtain ⟨h1, h2⟩ := lo_of_fr a.q0 a.hg
 rw [h1, h2] at this
 exact this
theorem maxI1 : 1 < MaxI := by unfold MaxI; decide
theorem Fr.ofInt {z : Int} (h : z.natAbs < MaxI) : Fr z 1 := ⟨h, by decide, maxI1, Int.gcd_one⟩
theorem Fr.inv {p q : Int} (h : Fr p q) (h0 : 0 < p) : Fr q p := ⟨h.hq, h0, h.hp, by rw [Int.gcd_comm]; exact h.hg⟩
theorem Fr.neg {p q : Int} (h : Fr p q) : Fr (-p) q := ⟨by rw [Int.natAbs_neg]; exact h.hp, h.q0, h.hq, by rw [Int.neg_gcd]; exact h.hg⟩
theorem den_ne (x : Rat) : (x.den : Rat) ≠ 0 := by
 have := x.den_nz
 exact_mod_cast this
theorem num_den (x : Rat) : (x.num : Rat) / (x.den : Rat) = x := by
 have h := Rat.num_divInt_den x
 rw [Rat.divInt_eq_div] at h
 exact_mod_cast h
theorem rat_gcd (x : Rat) : Int.gcd x.num (x.den : Int) = 1 := x.reduced
theorem int_ne {d : Int} (h : d ≠ 0) : (d : Rat) ≠ 0 := by exact_mod_cast h
theorem rat_cross {a b c d : Int} (hb : b ≠ 0) (hd : d ≠ 0) (h : (a : Rat) / b = (c : Rat) / d) : a * d = c * b := by
 have h1 := int_ne hb
 have h2 := int_ne hd
 have : (a : Rat) * d = c * b := by
  rw [Rat.div_def, Rat.div_def] at h
  grind
 exact_mod_cast this
theorem den_pos (x : Rat) : (0 : Int) < (x.den : Int) := by have := x.den_nz; omega
theorem num_den' (x : Rat) : (x.num : Rat) / ((x.den : Int) : Rat) = x := by have := num_den x; exact_mod_cast this
theorem lo_rat {n d : Int} (hd : d ≠ 0) : ((n : Rat) / d).num = loN n d ∧ ((((n : Rat) / d).den : Nat) : Int) = loD n d := by
 have hq := den_pos ((n : Rat) / d)
 refine fr_uniq hq (loD_pos hd) (rat_gcd _) (lo_gcd hd) ?_
 have h1 : (((n : Rat) / d).num : Rat) / ((((n : Rat) / d).den : Int) : Rat) = (n : Rat) / d := num_den' _
 have h2 := rat_cross (by omega) hd h1
 have h3 := lo_cross (n := n) hd
 have h4 := loD_pos (n := n) hd
 refine Int.eq_of_mul_eq_mul_right (a := d) hd ?_
 calc ((n : Rat) / d).num * loD n d * d = (((n : Rat) / d).num * d) * loD n d := by grind
  _ = (n * (((n : Rat) / d).den : Int)) * loD n d := by rw [h2]
  _ = (n * loD n d) * (((n : Rat) / d).den : Int) := by grind
  _ = _ := by rw [← h3]; grind
theorem Fr.rat {p q : Int} (h : Fr p q) : ((p : Rat) / q).num = p ∧ ((((p : Rat) / q).den : Nat) : Int) = q := by
 have h0 := h.q0
 obtain ⟨h1, h2⟩ := lo_rat (n := p) (d := q) (by omega)
 obtain ⟨h3, h4⟩ := lo_of_fr h.q0 h.hg
 rw [h3] at h1; rw [h4] at h2
 exact ⟨h1, h2⟩
structure RB (x : Rat) : Prop where
 n : x.num.natAbs < MaxI
 d : ((x.den : Nat) : Int).natAbs < MaxI
theorem RB.fr {x : Rat} (h : RB x) : Fr x.num x.den := ⟨h.n, den_pos x, h.d, rat_gcd x⟩
theorem Fr.rb {p q : Int} (h : Fr p q) : RB ((p : Rat) / q) := by
 obtain ⟨h1, h2⟩ := h.rat
 exact ⟨by rw [h1]; exact h.hp, by rw [h2]; exact h.hq⟩
theorem rat_ext {x y : Rat} (h1 : x.num = y.num) (h2 : x.den = y.den) : x = y := by
 rw [← num_den x, ← num_den y, h1, h2]
theorem q_add (x y : Rat) : (((x.num * (y.den : Int) + y.num * (x.den : Int)) : Int) : Rat) / (((x.den : Int) * (y.den : Int) : Int) : Rat) = x + y := by
 have h1 := den_ne x
 have h2 := den_ne y
 have e1 := num_den x
 have e2 := num_den y
 push_cast
 generalize (x.num : Rat) = a at *
 generalize (y.num : Rat) = b at *
 generalize (x.den : Rat) = c at *
 generalize (y.den : Rat) = d at *
 subst e1; subst e2
 grind
theorem q_sub (x y : Rat) : (((x.num * (y.den : Int) - y.num * (x.den : Int)) : Int) : Rat) / (((x.den : Int) * (y.den : Int) : Int) : Rat) = x - y := by
 have h1 := den_ne x
 have h2 := den_ne y
 have e1 := num_den x
 have e2 := num_den y
 push_cast
 generalize (x.num : Rat) = a at *
 generalize (y.num : Rat) = b at *
 generalize (x.den : Rat) = c at *
 generalize (y.den : Rat) = d at *
 subst e1; subst e2
 grind
theorem q_mul (x y : Rat) : (((x.num * y.num) : Int) : Rat) / (((x.den : Int) * (y.den : Int) : Int) : Rat) = x * y := by
 have h1 := den_ne x
 have h2 := den_ne y
 have e1 := num_den x
 have e2 := num_den y
 push_cast
 generalize (x.num : Rat) = a at *
 generalize (y.num : Rat) = b at *
 generalize (x.den : Rat) = c at *
 generalize (y.den : Rat) = d at *
 subst e1; subst e2
 grind
theorem num_le {n d : Int} (hd : d ≠ 0) : ((n : Rat) / d).num.natAbs ≤ n.natAbs := by
 rw [(lo_rat (n := n) hd).1, ← sgnTo_abs d n]
 exact abs_le_of_mul (gcd_pos' (n := n) hd) (loN_mul n d)
theorem den_le {n d : Int} (hd : d ≠ 0) : ((((n : Rat) / d).den : Nat) : Int).natAbs ≤ d.natAbs := by
 rw [(lo_rat (n := n) hd).2, ← sgnTo_abs d d]
 exact abs_le_of_mul (gcd_pos' (n := n) hd) (loD_mul n d)
theorem dd_ne (x y : Rat) : (x.den : Int) * (y.den : Int) ≠ 0 := Int.mul_ne_zero (Int.ne_of_gt (den_pos x)) (Int.ne_of_gt (den_pos y))
theorem den_int (z : Int) : ((z : Int) : Rat).den = 1 := rfl
theorem RB.int {z : Int} (h : z.natAbs < MaxI) : RB (z : Rat) := ⟨h, by rw [den_int]; exact maxI1⟩
end Go.Num
namespace Go.Num
abbrev El := Rat × Rat
def sumR (f : El → Rat) : List El → Rat
 | [] => 0
 | e :: l => f e + sumR f l
def kept : Nat → List El → List El
 | _, [] => []
 | k, e :: l => if k % 2 = 1 then e :: kept (k / 2) l else kept (k / 2) l
def wt : Nat → List El → Rat
 | _, [] => 1
 | k, e :: l => (if k % 2 = 1 then e.2 else 1 - e.2) * wt (k / 2) l
def sumN : Nat → (Nat → Rat) → Rat
 | 0, _ => 0
 | n + 1, F => sumN n F + F n
def DR (D M : Nat) (x : Rat) : Prop := ∃ n : Int, x = (n : Rat) / ((D : Int) : Rat) ∧ n.natAbs ≤ M * D
theorem dr_ne {D : Nat} (h : 0 < D) : (((D : Nat) : Int) : Rat) ≠ 0 := int_ne (by omega)
section
variable {D E M N : Nat} {x y : Rat}
theorem DR.add (hx : DR D M x) (hy : DR D N y) (hD : 0 < D) : DR D (M + N) (x + y) := by
 obtain ⟨n, rfl, hn⟩ := hx
 obtain ⟨m, rfl, hm⟩ := hy
 have h := dr_ne hD
 refine ⟨n + m, by rw [Rat.intCast_add]; grind, ?_⟩
 rw [Nat.add_mul]; omega
theorem DR.sub (hx : DR D M x) (hy : DR D N y) (hD : 0 < D) : DR D (M + N) (x - y) := by
 obtain ⟨n, rfl, hn⟩ := hx
 obtain ⟨m, rfl, hm⟩ := hy
 have h := dr_ne hD
 refine ⟨n - m, by rw [Rat.intCast_sub]; grind, ?_⟩
 rw [Nat.add_mul]; omega
theorem DR.mul (hx : DR D M x) (hy : DR E N y) (hD : 0 < D) (hE : 0 < E) : DR (D * E) (M * N) (x * y) := by
 obtain ⟨n, rfl, hn⟩ := hx
 obtain ⟨m, rfl, hm⟩ := hy
 have h := dr_ne hD
 have h' := dr_ne hE
 refine ⟨n * m, ?_, ?_⟩
 ·rw [Rat.intCast_mul, Int.natCast_mul, Rat.intCast_mul]; grind
 ·rw [Int.natAbs_mul, show M * N * (D * E) = (M * D) * (N * E) by rw [Nat.mul_assoc, Nat.mul_assoc]; congr 1; rw [← Nat.mul_assoc, ← Nat.mul_assoc, Nat.mul_comm N D]]
  exact Nat.mul_le_mul hn hm
theorem DR.mono (hx : DR D M x) (hD : 0 < D) (hE : 0 < E) (h : D ∣ E) (hM : M ≤ N) : DR E N x := by
 obtain ⟨n, rfl, hn⟩ := hx
 obtain ⟨c, rfl⟩ := h
 have hc : 0 < c := Nat.pos_of_ne_zero (fun h => by rw [h] at hE; omega)
 have h := dr_ne hD
 have h' := dr_ne hc
 refine ⟨n * (c : Int), ?_, ?_⟩
 ·rw [Rat.intCast_mul, Int.natCast_mul, Rat.intCast_mul]; grind
 ·rw [Int.natAbs_mul, Int.natAbs_natCast, ← Nat.mul_assoc]
  exact Nat.mul_le_mul (Nat.le_trans hn (Nat.mul_le_mul_right D hM)) (Nat.le_refl c)
theorem DR.zero : DR D M 0 := ⟨0, by grind, by simp⟩
theorem DR.num (hx : DR D M x) (hD : 0 < D) : x.num.natAbs ≤ M * D ∧ ((x.den : Nat) : Int).natAbs ≤ D := by
 obtain ⟨n, rfl, hn⟩ := hx
 have h : ((D : Nat) : Int) ≠ 0 := by omega
 exact ⟨Nat.le_trans (num_le h) hn, by have := den_le (n := n) h; omega⟩
theorem DR.of {n : Int} {d : Int} (h0 : 0 < d) (hd : d.natAbs ∣ D) (hD : 0 < D) (hn : n.natAbs ≤ M) : DR D M ((n : Rat) / (d : Rat)) := by
 have : DR d.natAbs M ((n : Rat) / (d : Rat)) := ⟨n, by rw [Int.natAbs_of_nonneg (by omega)], Nat.le_trans hn (Nat.le_mul_of_pos_right _ (by omega))⟩
 exact this.mono (by omega) hD hd (Nat.le_refl _)
end
theorem DR.sumR {D M : Nat} (hD : 0 < D) {f : El → Rat} : ∀ {l : List El}, (∀ e ∈ l, DR D M (f e)) → DR D (l.length * M) (sumR f l)
 | [], _ => .zero
 | e :: l, h => by
  have h1 := h e (by simp)
  have h2 := DR.sumR hD (f := f) (l := l) (fun x hx => h x (by simp [hx]))
  have := h1.add h2 hD
  rw [List.length_cons, Nat.add_mul, Nat.one_mul, Nat.add_comm]
  exact this
theorem DR.sumN {D M : Nat} (hD : 0 < D) {F : Nat → Rat} : ∀ {n : Nat}, (∀ k, k < n → DR D M (F k)) → DR D (n * M) (sumN n F)
 | 0, _ => .zero
 | n + 1, h => by
  rw [Nat.add_mul, Nat.one_mul]
  exact (DR.sumN hD (fun k hk => h k (by omega))).add (h n (by omega)) hD
theorem DR.one {D : Nat} (hD : 0 < D) : DR D 1 1 := by
 refine ⟨(D : Int), ?_, by simp⟩
 have := dr_ne hD
 grind
theorem DR.wt {D : Nat} (hD : 0 < D) : ∀ {l : List El} (k : Nat), (∀ e ∈ l, DR D 1 e.2 ∧ DR D 1 (1 - e.2)) → DR (D ^ l.length) 1 (wt k l)
 | [], k, _ => .one (by rw [List.length_nil, Nat.pow_zero]; decide)
 | e :: l, k, h => by
  have h1 := h e (by simp)
  have h2 := DR.wt hD (l := l) (k / 2) (fun x hx => h x (by simp [hx]))
  rw [List.length_cons, Nat.pow_succ, Nat.mul_comm]
  have hp : 0 < D ^ l.length := Nat.pow_pos hD
  unfold Num.wt
  split
  ·exact h1.1.mul h2 hD hp
  ·exact h1.2.mul h2 hD hp
end Go.Num
set_option maxRecDepth 100000
namespace Go.Smp
abbrev Gp := Int × Int
def sF : List Gp → List Bool → Int
 | g :: l, c :: f => (if c then g.1 else 0) + sF l f
 | _, _ => 0
def sD : List Gp → List Bool → Int
 | g :: l, c :: f => (if c then 0 else g.1 * g.2) + sD l f
 | _, _ => 0
def dF : List Gp → List Bool → List Bool → Int
 | g :: l, c :: f, d :: h => (if !c && d then g.1 else 0) + dF l f h
 | _, _, _ => 0
def dW : List Gp → List Bool → List Bool → Int
 | g :: l, c :: f, d :: h => (if !c && d then g.1 * g.2 else 0) + dW l f h
 | _, _, _ => 0
def Gok (l : List Gp) : Prop := ∀ g ∈ l, 0 ≤ g.1 ∧ 1 ≤ g.2
theorem Gok.tail {g : Gp} {l : List Gp} (h : Gok (g :: l)) : Gok l := fun x hx => h x (List.mem_cons_of_mem _ hx)
def Le : List Bool → List Bool → Prop
 | c :: f, d :: h => (c = true → d = true) ∧ Le f h
 | [], [] => True
 | _, _ => False
theorem Le.refl : ∀ f, Le f f
 | [] => trivial
 | _ :: f => ⟨id, Le.refl f⟩
theorem Le.len : ∀ {f h : List Bool}, Le f h → f.length = h.length
 | [], [], _ => rfl
 | _ :: f, _ :: h, ⟨_, k⟩ => by rw [List.length_cons, List.length_cons, k.len]
 | [], _ :: _, k => k.elim
 | _ :: _, [], k => k.elim
theorem sF_diff : ∀ {l : List Gp} {f h : List Bool}, Le f h → sF l h = sF l f + dF l f h
 | [], _, _, _ => by simp [sF, dF]
 | g :: l, [], [], _ => by simp [sF, dF]
 | g :: l, c :: f, d :: h, ⟨k1, k2⟩ => by
  have := sF_diff (l := l) k2
  rw [sF, sF, dF, this]
  cases c <;> cases d <;> simp_all <;> omega
 | g :: l, [], _ :: _, k => k.elim
 | g :: l, _ :: _, [], k => k.elim
theorem sD_diff : ∀ {l : List Gp} {f h : List Bool}, Le f h → sD l f = sD l h + dW l f h
 | [], _, _, _ => by simp [sD, dW]
 | g :: l, [], [], _ => by simp [sD, dW]
 | g :: l, c :: f, d :: h, ⟨k1, k2⟩ => by
  have := sD_diff (l := l) k2
  rw [sD, sD, dW, this]
  cases c <;> cases d <;> simp_all <;> omega
 | g :: l, [], _ :: _, k => k.elim
 | g :: l, _ :: _, [], k => k.elim
theorem sD_nonneg : ∀ {l : List Gp} {f : List Bool}, Gok l → 0 ≤ sD l f
 | [], _, _ => by simp [sD]
 | g :: l, [], _ => by simp [sD]
 | g :: l, c :: f, h => by
  have := sD_nonneg (f := f) h.tail
  have hg := h g List.mem_cons_self
  have := Int.mul_nonneg hg.1 (show 0 ≤ g.2 by omega)
  rw [sD]; cases c <;> simp <;> omega
theorem dF_nonneg : ∀ {l : List Gp} {f h : List Bool}, Gok l → 0 ≤ dF l f h
 | [], _, _, _ => by simp [dF]
 | g :: l, [], _, _ => by simp [dF]
 | g :: l, _ :: _, [], _ => by simp [dF]
 | g :: l, c :: f, d :: h, k => by
  have := dF_nonneg (f := f) (h := h) k.tail
  have hg := k g List.mem_cons_self
  rw [dF]; cases c <;> cases d <;> simp <;> omega
theorem dF_le : ∀ {l : List Gp} {f h : List Bool}, Gok l → dF l f h ≤ dW l f h
 | [], _, _, _ => by simp [dF, dW]
 | g :: l, [], _, _ => by simp [dF, dW]
 | g :: l, _ :: _, [], _ => by simp [dF, dW]
 | g :: l, c :: f, d :: h, k => by
  have := dF_le (f := f) (h := h) k.tail
  have hg := k g List.mem_cons_self
  have hm : g.1 * 1 ≤ g.1 * g.2 := Int.mul_le_mul_of_nonneg_left hg.2 hg.1
  rw [dF, dW]; cases c <;> cases d <;> simp <;> omega
theorem diff_ge {x y : Int} : ∀ {l : List Gp} {f h : List Bool}, Gok l → (∀ (i : Nat) g, l[i]? = some g → f[i]? = some false → h[i]? = some true → y ≤ x * g.2) → dF l f h * y ≤ x * dW l f h
 | [], _, _, _, _ => by simp [dF, dW]
 | g :: l, [], _, _, _ => by simp [dF, dW]
 | g :: l, _ :: _, [], _, _ => by simp [dF, dW]
 | g :: l, c :: f, d :: h, k, hw => by
  have ih := diff_ge (x := x) (y := y) (f := f) (h := h) k.tail fun i g' h1 h2 h3 => hw (i + 1) g' (by simpa using h1) (by simpa using h2) (by simpa using h3)
  have hg := k g List.mem_cons_self
  rw [dF, dW, Int.add_mul, Int.mul_add]
  by_cases c1 : c = false ∧ d = true
  ·obtain ⟨rfl, rfl⟩ := c1
   have h1 := hw 0 g rfl rfl rfl
   have h2 := Int.mul_le_mul_of_nonneg_left h1 hg.1
   have e : g.1 * (x * g.2) = x * (g.1 * g.2) := by rw [Int.mul_left_comm]
   simp only [Bool.not_false, Bool.and_self, if_true]
   omega
  ·have e : (!c && d) = false := by
    cases c <;> cases d <;> simp_all
   rw [e]
   simp only [Bool.false_eq_true, if_false, Int.zero_mul, Int.mul_zero]
   omega
theorem diff_le {y : Int} : ∀ {l : List Gp} {f h : List Bool}, Gok l → (∀ (i : Nat) g, l[i]? = some g → f[i]? = some false → h[i]? = some true → g.2 ≤ y) → dW l f h ≤ dF l f h * y
 | [], _, _, _, _ => by simp [dF, dW]
 | g :: l, [], _, _, _ => by simp [dF, dW]
 | g :: l, _ :: _, [], _, _ => by simp [dF, dW]
 | g :: l, c :: f, d :: h, k, hw => by
  have ih := diff_le (y := y) (f := f) (h := h) k.tail fun i g' h1 h2 h3 => hw (i + 1) g' (by simpa using h1) (by simpa using h2) (by simpa using h3)
  have hg := k g List.mem_cons_self
  rw [dF, dW, Int.add_mul]
  by_cases c1 : c = false ∧ d = true
  ·obtain ⟨rfl, rfl⟩ := c1
   have h1 := hw 0 g rfl rfl rfl
   have h2 := Int.mul_le_mul_of_nonneg_left h1 hg.1
   simp only [Bool.not_false, Bool.and_self, if_true]
   omega
  ·have e : (!c && d) = false := by
    cases c <;> cases d <;> simp_all
   rw [e]
   simp only [Bool.false_eq_true, if_false, Int.zero_mul]
   omega
def num (b : Int) (l : List Gp) (f : List Bool) : Int := b - sF l f
structure Inv (b : Int) (l : List Gp) (f : List Bool) : Prop where
 len : f.length = l.length
 n0 : 0 ≤ num b l f
 w : ∀ (i : Nat) g, l[i]? = some g → f[i]? = some true → sD l f ≤ num b l f * g.2
theorem inv0 {b : Int} {l : List Gp} (hb : 0 ≤ b) : Inv b l (List.replicate l.length false) := by
 have h0 : ∀ l : List Gp, sF l (List.replicate l.length false) = 0 := by
  intro l
  induction l with
  | nil => rfl
  | cons g l ih => rw [List.length_cons, List.replicate_succ, sF, ih]; rfl
 refine ⟨List.length_replicate, by unfold num; rw [h0]; omega, fun i g _ h => ?_⟩
 rw [List.getElem?_replicate] at h
 split at h <;> simp at h
def pass (b : Int) (l : List Gp) (f : List Bool) : List Bool := List.zipWith (fun g c => c || decide (sD l f ≤ num b l f * g.2)) l f
theorem pass_get {b : Int} {l : List Gp} {f : List Bool} {i : Nat} {g : Gp} {c : Bool} (h1 : l[i]? = some g) (h2 : f[i]? = some c) : (pass b l f)[i]? = some (c || decide (sD l f ≤ num b l f * g.2)) := by
 unfold pass
 rw [List.getElem?_zipWith, h1, h2]
theorem le_zip {q : Gp → Bool} : ∀ {l : List Gp} {f : List Bool}, f.length = l.length → Le f (List.zipWith (fun g c => c || q g) l f)
 | [], [], _ => trivial
 | g :: l, c :: f, h => ⟨fun hc => by rw [hc]; rfl, le_zip (by simpa using h)⟩
 | [], _ :: _, h => by simp at h
 | _ :: _, [], h => by simp at h
theorem pass_le {b : Int} {l : List Gp} {f : List Bool} (h : f.length = l.length) : Le f (pass b l f) := le_zip h
theorem mul_pos_le {a b c : Int} (hc : 0 < c) (h : a * c ≤ b * c) : a ≤ b := by
 rcases Int.lt_or_le b a with h1 | h1
 ·have := Int.mul_lt_mul_of_pos_right h1 hc
  omega
 ·exact h1
theorem Inv.pass {b : Int} {l : List Gp} {f : List Bool} (hl : Gok l) (h : Inv b l f) : Inv b l (pass b l f) := by
 obtain ⟨x, hx⟩ : ∃ x, num b l f = x := ⟨_, rfl⟩
 obtain ⟨y, hy⟩ : ∃ y, sD l f = y := ⟨_, rfl⟩
 have hlen := h.len
 have hle := pass_le (b := b) hlen
 have e1 := sF_diff (l := l) hle
 have e2 := sD_diff (l := l) hle
 have hy0 : 0 ≤ y := by rw [← hy]; exact sD_nonneg hl
 have hd0 := dF_nonneg (f := f) (h := Smp.pass b l f) hl
 have hdn := sD_nonneg (f := Smp.pass b l f) hl
 have key := diff_ge (x := x) (y := y) (f := f) (h := Smp.pass b l f) hl fun i g h1 h2 h3 => by
  rw [pass_get h1 h2, hx, hy] at h3
  simpa using h3
 have hn0 := h.n0
 rw [hx] at hn0
 have hpl : (Smp.pass b l f).length = l.length := by rw [← hle.len]; exact hlen
 obtain ⟨d, hd⟩ : ∃ d, dF l f (Smp.pass b l f) = d := ⟨_, rfl⟩
 obtain ⟨v, hv⟩ : ∃ v, dW l f (Smp.pass b l f) = v := ⟨_, rfl⟩
 rw [hd] at e1 hd0
 rw [hd, hv] at key
 rw [hv, hy] at e2
 have en : num b l (Smp.pass b l f) = x - d := by unfold num at hx ⊢; omega
 have es : sD l (Smp.pass b l f) = y - v := by omega
 rw [es] at hdn
 have hn : 0 ≤ x - d := by
  by_cases hyz : y = 0
  ·have hv0 : v = 0 ∨ v < 0 := by omega
   have := dF_le (f := f) (h := Smp.pass b l f) hl
   omega
  ·have h1 : x * v ≤ x * y := Int.mul_le_mul_of_nonneg_left (by omega) hn0
   have : d ≤ x := mul_pos_le (c := y) (by omega) (by omega)
   omega
 refine ⟨hpl, by rw [en]; exact hn, fun i g h1 h2 => ?_⟩
 rw [en, es]
 have hwon : y ≤ x * g.2 := by
  have hf : ∃ c, f[i]? = some c := by
   have := (List.getElem?_eq_some_iff.1 h1).1
   exact ⟨_, List.getElem?_eq_getElem (by omega)⟩
  obtain ⟨c, hc⟩ := hf
  rw [pass_get h1 hc, hx, hy] at h2
  cases c
  ·simpa using h2
  ·have := h.w i g h1 hc
   rw [hx, hy] at this
   exact this
 have hg := hl g (List.mem_of_getElem? h1)
 by_cases hyz : y = 0
 ·have : 0 ≤ (x - d) * g.2 := Int.mul_nonneg hn (by omega)
  have hvd : v = 0 ∨ 0 < v ∨ v < 0 := by omega
  have : 0 ≤ y - v := hdn
  have hv1 : d ≤ v := by
   have := dF_le (f := f) (h := Smp.pass b l f) hl
   omega
  omega
 ·
  have hr : x * (y - v) ≤ (x - d) * y := by rw [Int.mul_sub, Int.sub_mul]; omega
  refine mul_pos_le (c := y) (by omega) ?_
  have h3 : (y - v) * y ≤ (y - v) * (x * g.2) := Int.mul_le_mul_of_nonneg_left hwon hdn
  have h4 : x * (y - v) * g.2 ≤ (x - d) * y * g.2 := Int.mul_le_mul_of_nonneg_right hr (by omega)
  have e5 : (y - v) * (x * g.2) = x * (y - v) * g.2 := by rw [← Int.mul_assoc, Int.mul_comm (y - v) x]
  have e6 : (x - d) * y * g.2 = (x - d) * g.2 * y := by rw [Int.mul_assoc, Int.mul_comm y, ← Int.mul_assoc]
  omega
end Go.Smp
set_option maxRecDepth 100000
namespace Go.Smp
open Go.Num (sumN)
structure Stb (b : Int) (l : List Gp) (f : List Bool) : Prop where
 inv : Inv b l f
 no : ∀ (i : Nat) g, l[i]? = some g → f[i]? = some false → num b l f * g.2 < sD l f
theorem stb_of {b : Int} {l : List Gp} {f : List Bool} (h : Inv b l f) (e : pass b l f = f) : Stb b l f := ⟨h, fun i g h1 h2 => by
 have h3 := pass_get (b := b) h1 h2
 rw [e, h2] at h3
 have := Option.some.inj h3
 simp only [Bool.false_or] at this
 have := of_decide_eq_false this.symm
 omega⟩
theorem Stb.get {b : Int} {l : List Gp} {f : List Bool} (h : Stb b l f) {i : Nat} {g : Gp} (hg : l[i]? = some g) : f[i]? = some (decide (sD l f ≤ num b l f * g.2)) := by
 have hl := (List.getElem?_eq_some_iff.1 hg).1
 have hf : f[i]? = some (f[i]'(by have := h.inv.len; omega)) := List.getElem?_eq_getElem _
 cases hc : f[i]'(by have := h.inv.len; omega)
 ·rw [hc] at hf
  rw [hf, decide_eq_false (by have := h.no i g hg hf; omega)]
 ·rw [hc] at hf
  rw [hf, decide_eq_true (h.inv.w i g hg hf)]
theorem le_of {f h : List Bool} (hl : f.length = h.length) (k : ∀ i : Nat, f[i]? = some true → h[i]? = some true) : Le f h := by
 induction f generalizing h with
 | nil => cases h with
  | nil => trivial
  | cons d h => simp at hl
 | cons c f ih => cases h with
  | nil => simp at hl
  | cons d h =>
   refine ⟨fun hc => ?_, ih (by simpa using hl) fun i hi => ?_⟩
   ·have := k 0 (by rw [hc]; rfl)
    simpa using this
   ·have := k (i + 1) (by simpa using hi)
    simpa using this
theorem le_get {f h : List Bool} (k : Le f h) : ∀ i : Nat, f[i]? = some true → h[i]? = some true := by
 induction f generalizing h with
 | nil => intro i hi; simp at hi
 | cons c f ih => cases h with
  | nil => exact k.elim
  | cons d h =>
   intro i hi
   cases i with
   | zero =>
    have : c = true := by simpa using hi
    have := k.1 this
    simp [this]
   | succ i => simpa using ih k.2 i (by simpa using hi)
theorem dF_pos_ex : ∀ {l : List Gp} {f h : List Bool}, Gok l → f.length = l.length → h.length = l.length → (∃ i : Nat, f[i]? = some false ∧ h[i]? = some true) → ∃ (i : Nat) (g : Gp), l[i]? = some g ∧ f[i]? = some false ∧ h[i]? = some true ∧ ∀ (j : Nat) g', l[j]? = some g' → f[j]? = some false → h[j]? = some true → g'.2 ≤ g.2
 | [], f, h, _, hf, hh, ⟨i, h1, _⟩ => by
  have := (List.getElem?_eq_some_iff.1 h1).1
  simp at hf; subst hf; simp at this
 | g :: l, [], _, _, hf, _, _ => by simp at hf
 | g :: l, _ :: _, [], _, _, hh, _ => by simp at hh
 | g :: l, c :: f, d :: h, k, hf, hh, ⟨i, h1, h2⟩ => by
  by_cases hr : ∃ i : Nat, f[i]? = some false ∧ h[i]? = some true
  ·obtain ⟨j, g', a1, a2, a3, a4⟩ := dF_pos_ex k.tail (by simpa using hf) (by simpa using hh) hr
   by_cases hc : c = false ∧ d = true ∧ g'.2 ≤ g.2
   ·refine ⟨0, g, rfl, by simp [hc.1], by simp [hc.2.1], fun j' x b1 b2 b3 => ?_⟩
    cases j' with
    | zero => have : g = x := by simpa using b1
              subst this; exact Int.le_refl _
    | succ j' => exact Int.le_trans (a4 j' x (by simpa using b1) (by simpa using b2) (by simpa using b3)) hc.2.2
   ·refine ⟨j + 1, g', by simpa using a1, by simpa using a2, by simpa using a3, fun j' x b1 b2 b3 => ?_⟩
    cases j' with
    | zero =>
     have e1 : g = x := by simpa using b1
     have e2 : c = false := by simpa using b2
     have e3 : d = true := by simpa using b3
     subst e1
     by_cases hw : g'.2 ≤ g.2
     ·exact absurd ⟨e2, e3, hw⟩ hc
     ·omega
    | succ j' => exact a4 j' x (by simpa using b1) (by simpa using b2) (by simpa using b3)
  ·have h0 : i = 0 := by
    cases i with
    | zero => rfl
    | succ i => exact absurd ⟨i, by simpa using h1, by simpa using h2⟩ hr
   subst h0
   refine ⟨0, g, rfl, h1, h2, fun j' x b1 b2 b3 => ?_⟩
   cases j' with
   | zero => have : g = x := by simpa using b1
             subst this; exact Int.le_refl _
   | succ j' => exact absurd ⟨j', by simpa using b2, by simpa using b3⟩ hr
theorem stb_le {b b' : Int} {l : List Gp} {f h : List Bool} (hl : Gok l) (hf : Stb b l f) (hh : Stb b' l h) (hb : b ≤ b') : Le f h := by
 have lf := hf.inv.len
 have lh := hh.inv.len
 by_cases hsub : ∀ i : Nat, f[i]? = some true → h[i]? = some true
 ·exact le_of (by omega) hsub
 ·exfalso
  obtain ⟨i, hi⟩ := Classical.not_forall.1 hsub
  have hi1 : f[i]? = some true := Classical.not_not.1 fun hc => hi fun hx => absurd hx hc
  have hi2 : h[i]? ≠ some true := fun hc => hi fun _ => hc
  have hil : i < l.length := by have := (List.getElem?_eq_some_iff.1 hi1).1; omega
  have hi3 : h[i]? = some false := by
   have : h[i]? = some (h[i]'(by omega)) := List.getElem?_eq_getElem _
   cases hc : h[i]'(by omega)
   ·rw [hc] at this; exact this
   ·rw [hc] at this; exact absurd this hi2
  have hw : ∀ j : Nat, h[j]? = some true → f[j]? = some true := fun j hj => by
   have hjl : j < l.length := by have := (List.getElem?_eq_some_iff.1 hj).1; omega
   have gj := List.getElem?_eq_getElem hjl
   have gi := List.getElem?_eq_getElem hil
   have a1 := hf.inv.w i _ gi hi1
   have a2 := hh.no i _ gi hi3
   have a3 := hh.inv.w j _ gj hj
   rw [hf.get gj]
   congr 1
   refine decide_eq_true ?_
   have hn0 := hf.inv.n0
   have hm0 := hh.inv.n0
   have hwj : l[i].2 ≤ l[j].2 := by
    rcases Int.lt_or_le l[j].2 l[i].2 with h1 | h1
    ·have := Int.mul_le_mul_of_nonneg_left (Int.le_of_lt h1) hm0
     omega
    ·exact h1
   have := Int.mul_le_mul_of_nonneg_left hwj hn0
   omega
  have hle : Le h f := le_of (by omega) hw
  obtain ⟨j, g, h1, h2, h3, h4⟩ := dF_pos_ex hl lh lf ⟨i, hi3, hi1⟩
  have e1 := sF_diff (l := l) hle
  have e2 := sD_diff (l := l) hle
  have a1 := hf.inv.w j g h1 h3
  have a2 := hh.no j g h1 h2
  have a3 := diff_le (y := g.2) (f := h) (h := f) hl h4
  have hn : num b l f + dF l h f ≤ num b' l h := by unfold num; omega
  have hg := hl g (List.mem_of_getElem? h1)
  have := Int.mul_le_mul_of_nonneg_right hn (show 0 ≤ g.2 by omega)
  rw [Int.add_mul] at this
  omega
theorem stb_eq {b : Int} {l : List Gp} {f h : List Bool} (hl : Gok l) (hf : Stb b l f) (hh : Stb b l h) : f = h := by
 have a := stb_le hl hf hh (Int.le_refl _)
 have c := stb_le hl hh hf (Int.le_refl _)
 apply List.ext_getElem?
 intro i
 by_cases hi : i < f.length
 ·have hi2 : i < h.length := by rw [← a.len]; exact hi
  have e1 : f[i]? = some f[i] := List.getElem?_eq_getElem hi
  have e2 : h[i]? = some h[i] := List.getElem?_eq_getElem hi2
  cases c1 : f[i]
  ·cases c2 : h[i]
   ·rw [e1, e2, c1, c2]
   ·rw [c2] at e2
    have := le_get c i e2
    rw [e1, c1] at this; simp at this
  ·rw [c1] at e1
   rw [e1, le_get a i e1]
 ·have := a.len
  rw [List.getElem?_eq_none (by omega), List.getElem?_eq_none (by omega)]
def kD (b : Int) (l : List Gp) (f : List Bool) (g : Gp) (c : Bool) : Int := if c then 1 else (sD l f + num b l f * g.2 - 1) / (num b l f * g.2)
def kOk (b : Int) (l : List Gp) (f : List Bool) (g : Gp) (c : Bool) : Bool := c || decide (0 < num b l f ∧ sD l f ≤ 1000 * num b l f * g.2)
def kAll (b : Int) (l : List Gp) (f : List Bool) : List Int := List.zipWith (kD b l f) l f
def okAll (b : Int) (l : List Gp) (f : List Bool) : Bool := (List.zipWith (kOk b l f) l f).all id
end Go.Smp
set_option maxRecDepth 100000
namespace Go.Smp
def mQ : List Gp → List Int → Rat
 | g :: l, k :: ks => (g.1 : Rat) / (k : Rat) + mQ l ks
 | _, _ => 0
theorem all_zip {q : Gp → Bool → Bool} {l : List Gp} {f : List Bool} (h : (List.zipWith q l f).all id = true) {i : Nat} {g : Gp} {c : Bool} (h1 : l[i]? = some g) (h2 : f[i]? = some c) : q g c = true := by
 have h3 : (List.zipWith q l f)[i]? = some (q g c) := by rw [List.getElem?_zipWith, h1, h2]
 have := List.all_eq_true.1 h _ (List.mem_of_getElem? h3)
 simpa using this
end Go.Smp
set_option maxRecDepth 100000
namespace Go.Smp
theorem kAll_get {b : Int} {l : List Gp} {f : List Bool} {i : Nat} {g : Gp} {c : Bool} (h1 : l[i]? = some g) (h2 : f[i]? = some c) : (kAll b l f)[i]? = some (kD b l f g c) := by
 unfold kAll; rw [List.getElem?_zipWith, h1, h2]
theorem kAll_len {b : Int} {l : List Gp} {f : List Bool} (h : f.length = l.length) : (kAll b l f).length = l.length := by
 unfold kAll; rw [List.length_zipWith]; omega
def scl (m : Int) (l : List Gp) : List Gp := l.map fun g => (g.1, g.2 * m)
def sumN' : List Gp → Int
 | [] => 0
 | g :: l => g.1 + sumN' l
end Go.Smp
set_option maxRecDepth 100000
namespace Go.Smp
section
variable {α : Type} (key : α → Int)
def run (t : Int) : List α → Nat
 | [] => 0
 | f :: l => if key f = t then run t l + 1 else 0
def trsN : Nat → List α → List (List α)
 | 0, _ => []
 | _ + 1, [] => []
 | n + 1, f :: l => (f :: l.take (run key (key f) l)) :: trsN n (l.drop (run key (key f) l))
def trs (l : List α) : List (List α) := trsN key l.length l
theorem run_le (t : Int) : ∀ l : List α, run key t l ≤ l.length
 | [] => Nat.le_refl _
 | f :: l => by
  have := run_le t l
  unfold run
  split
  ·simp; omega
  ·simp
theorem run_in {t : Int} : ∀ {l : List α} {i : Nat} {x : α}, i < run key t l → l[i]? = some x → key x = t
 | [], _, _, h, _ => by simp [run] at h
 | f :: l, 0, x, h, hx => by
  unfold run at h
  split at h
  ·next hk => have : f = x := by simpa using hx
              subst this; exact hk
  ·omega
 | f :: l, i + 1, x, h, hx => by
  unfold run at h
  split at h
  ·exact run_in (t := t) (l := l) (i := i) (by omega) (by simpa using hx)
  ·omega
theorem run_out {t : Int} : ∀ {l : List α} {x : α}, l[run key t l]? = some x → key x ≠ t
 | [], _, hx => by simp at hx
 | f :: l, x, hx => by
  unfold run at hx
  split at hx
  ·exact run_out (by simpa using hx)
  ·next hk => have : f = x := by simpa using hx
              subst this; exact hk
theorem trsN_eq : ∀ (n m : Nat) (l : List α), l.length ≤ n → l.length ≤ m → trsN key n l = trsN key m l
 | 0, 0, _, _, _ => rfl
 | 0, m + 1, l, h, _ => by
  have : l = [] := List.eq_nil_of_length_eq_zero (by omega)
  subst this; rfl
 | n + 1, 0, l, _, h => by
  have : l = [] := List.eq_nil_of_length_eq_zero (by omega)
  subst this; rfl
 | n + 1, m + 1, [], _, _ => rfl
 | n + 1, m + 1, f :: l, h1, h2 => by
  rw [trsN, trsN, trsN_eq n m _ (by simp at h1 ⊢; omega) (by simp at h2 ⊢; omega)]
theorem trs_nil : trs key ([] : List α) = [] := rfl
theorem trs_cons (f : α) (l : List α) : trs key (f :: l) = (f :: l.take (run key (key f) l)) :: trs key (l.drop (run key (key f) l)) := by
 show trsN key (l.length + 1) (f :: l) = _
 rw [trsN]
 congr 1
 exact trsN_eq key _ _ _ (by simp) (Nat.le_refl _)
theorem trs_ind {P : List α → Prop} (h0 : P []) (h1 : ∀ f l, P (l.drop (run key (key f) l)) → P (f :: l)) : ∀ l, P l := by
 have : ∀ (n : Nat) (l : List α), l.length ≤ n → P l := by
  intro n
  induction n with
  | zero => intro l hl; rw [List.eq_nil_of_length_eq_zero (show l.length = 0 by omega)]; exact h0
  | succ n ih =>
   intro l hl
   cases l with
   | nil => exact h0
   | cons f l => exact h1 f l (ih _ (by simp at hl ⊢; omega))
 exact fun l => this _ l (Nat.le_refl _)
theorem trs_flat : ∀ l : List α, (trs key l).flatten = l := by
 refine trs_ind key rfl fun f l ih => ?_
 rw [trs_cons, List.flatten_cons, ih, List.cons_append, List.take_append_drop]
theorem trs_ne : ∀ (l : List α), ∀ g ∈ trs key l, g ≠ [] := by
 refine trs_ind key (by simp [trs_nil]) fun f l ih g hg => ?_
 rw [trs_cons] at hg
 rcases List.mem_cons.1 hg with rfl | hg
 ·simp
 ·exact ih g hg
theorem trs_key : ∀ (l : List α), ∀ g ∈ trs key l, ∀ x ∈ g, ∀ y ∈ g, key x = key y := by
 refine trs_ind key (by simp [trs_nil]) fun f l ih g hg => ?_
 rw [trs_cons] at hg
 rcases List.mem_cons.1 hg with rfl | hg
 ·have hk : ∀ x ∈ f :: l.take (run key (key f) l), key x = key f := fun x hx => by
   rcases List.mem_cons.1 hx with rfl | hx
   ·rfl
   ·obtain ⟨i, hi, e⟩ := List.getElem_of_mem hx
    rw [List.length_take] at hi
    rw [List.getElem_take] at e
    exact run_in key (show i < run key (key f) l by omega) (by rw [List.getElem?_eq_getElem (by omega), e])
  exact fun x hx y hy => (hk x hx).trans (hk y hy).symm
 ·exact ih g hg
theorem trs_mem {l : List α} {g : List α} (hg : g ∈ trs key l) {x : α} (hx : x ∈ g) : x ∈ l := by
 rw [← trs_flat key l]; exact List.mem_flatten.2 ⟨g, hg, hx⟩
theorem trs_len_le : ∀ l : List α, (trs key l).length ≤ l.length := by
 refine trs_ind key (Nat.le_refl _) fun f l ih => ?_
 rw [trs_cons, List.length_cons, List.length_cons]
 rw [List.length_drop] at ih
 omega
def Asc (l : List α) : Prop := l.Pairwise fun a b => key a ≤ key b
def hdK : List α → Int
 | [] => 0
 | f :: _ => key f
theorem trs_asc : ∀ l : List α, Asc key l → ((trs key l).map (hdK key)).Pairwise (· < ·) := by
 refine trs_ind key (fun _ => by simp [trs_nil]) fun f l ih ha => ?_
 rw [trs_cons, List.map_cons, List.pairwise_cons]
 have ha2 := List.pairwise_cons.1 ha
 have hd : Asc key (l.drop (run key (key f) l)) := ha2.2.sublist (List.drop_sublist _ _)
 refine ⟨fun t ht => ?_, ih hd⟩
 obtain ⟨g, hg, rfl⟩ := List.mem_map.1 ht
 show key f < _
 rcases g with _ | ⟨x, g⟩
 ·exact absurd rfl (trs_ne key _ _ hg)
 ·show key f < key x
  have hx : x ∈ l.drop (run key (key f) l) := trs_mem key hg (List.mem_cons_self ..)
  have h1 := ha2.1 x (List.mem_of_mem_drop hx)
  rcases Int.lt_or_eq_of_le h1 with h2 | h2
  ·exact h2
  ·exfalso
   obtain ⟨y, hy⟩ : ∃ y, l[run key (key f) l]? = some y := by
    have hl : run key (key f) l < l.length := by
     have := List.length_pos_of_mem hx
     rw [List.length_drop] at this; omega
    exact ⟨_, List.getElem?_eq_getElem hl⟩
   have h3 := run_out key hy
   have h4 := ha2.1 y (List.mem_of_getElem? hy)
   have e : l.drop (run key (key f) l) = y :: l.drop (run key (key f) l + 1) := by
    have hl := (List.getElem?_eq_some_iff.1 hy)
    rw [List.drop_eq_getElem_cons hl.1, hl.2]
   rw [e] at hx hd
   have h5 := List.pairwise_cons.1 hd
   rcases List.mem_cons.1 hx with rfl | hx
   ·exact h3 h2.symm
   ·have := h5.1 x hx
    omega
end
end Go.Smp
set_option maxRecDepth 100000
namespace Go.Smp
section
variable {α : Type} (key : α → Int)
theorem run_all {t : Int} : ∀ {l : List α}, (∀ x ∈ l, key x = t) → run key t l = l.length
 | [], _ => rfl
 | f :: l, h => by
  unfold run
  rw [if_pos (h f (List.mem_cons_self ..)), run_all fun x hx => h x (List.mem_cons_of_mem _ hx)]
  rfl
theorem run_app {t : Int} {x : α} : ∀ {l : List α}, run key t l < l.length → run key t (l ++ [x]) = run key t l
 | [], h => by simp [run] at h
 | f :: l, h => by
  rw [List.cons_append, run, run]
  by_cases hk : key f = t
  ·rw [if_pos hk, if_pos hk]
   rw [run, if_pos hk] at h
   rw [run_app (by simp at h; omega)]
  ·rw [if_neg hk, if_neg hk]
theorem run_eq_len {t : Int} {l : List α} (h : run key t l = l.length) : ∀ x ∈ l, key x = t := fun x hx => by
 obtain ⟨i, hi, e⟩ := List.getElem_of_mem hx
 exact run_in key (t := t) (l := l) (i := i) (by omega) (by rw [List.getElem?_eq_getElem hi, e])
theorem trs_new {x : α} : ∀ (l : List α), (∀ y, l.getLast? = some y → key y ≠ key x) → trs key (l ++ [x]) = trs key l ++ [[x]] := by
 refine trs_ind key (fun _ => ?_) fun f l ih h => ?_
 ·rw [List.nil_append, trs_cons, trs_nil]; rfl
 ·rw [List.cons_append, trs_cons, trs_cons]
  have hle := run_le key (key f) l
  by_cases he : run key (key f) l = l.length
  ·have hall := run_eq_len key he
   have hx : key x ≠ key f := by
    cases hl : l.getLast? with
    | none =>
     have : l = [] := List.getLast?_eq_none_iff.1 hl
     subst this
     exact fun e => h f rfl e.symm
    | some y =>
     have h1 : (f :: l).getLast? = some y := by rw [List.getLast?_cons, hl]; rfl
     have h2 := hall y (List.mem_of_getLast? hl)
     exact fun e => h y h1 (h2.trans e.symm)
   have hr : run key (key f) (l ++ [x]) = l.length := by
    have : ∀ {l : List α}, (∀ y ∈ l, key y = key f) → run key (key f) (l ++ [x]) = l.length := by
     intro l
     induction l with
     | nil => intro _; simp [run, hx]
     | cons a l ih => intro hl; rw [List.cons_append, run, if_pos (hl a (List.mem_cons_self ..)), ih fun y hy => hl y (List.mem_cons_of_mem _ hy)]; rfl
    exact this hall
   rw [hr, he, List.take_left, List.take_of_length_le (Nat.le_refl _), List.drop_left, List.drop_of_length_le (Nat.le_refl _), trs_nil, trs_cons, List.drop_nil, trs_nil, List.take_nil]
   rfl
  ·have hlt : run key (key f) l < l.length := by omega
   rw [run_app key hlt, List.take_append_of_le_length (by omega), List.drop_append_of_le_length (by omega), ih ?_]
   ·rfl
   ·intro y hy
    refine h y ?_
    have hne : l.drop (run key (key f) l) ≠ [] := by
     intro hc
     have := congrArg List.length hc
     rw [List.length_drop] at this
     simp at this
     omega
    rw [List.getLast?_drop, if_neg (by omega)] at hy
    rw [List.getLast?_cons, hy]; rfl
theorem trs_more {x : α} : ∀ (l : List α), (∃ y, l.getLast? = some y ∧ key y = key x) → ∃ A g, trs key l = A ++ [g] ∧ trs key (l ++ [x]) = A ++ [g ++ [x]] := by
 refine trs_ind key (fun ⟨y, h, _⟩ => by simp at h) fun f l ih h => ?_
 obtain ⟨y, hy, hk⟩ := h
 rw [List.cons_append, trs_cons, trs_cons]
 have hle := run_le key (key f) l
 by_cases he : run key (key f) l = l.length
 ·have hall := run_eq_len key he
  have hx : key x = key f := by
   cases hl : l.getLast? with
   | none =>
    have : l = [] := List.getLast?_eq_none_iff.1 hl
    subst this
    have : f = y := by simpa using hy
    subst this; exact hk.symm
   | some z =>
    have h1 : (f :: l).getLast? = some z := by rw [List.getLast?_cons, hl]; rfl
    rw [h1] at hy
    have : z = y := Option.some.inj hy
    subst this
    rw [← hk]; exact hall z (List.mem_of_getLast? hl)
  have hr : run key (key f) (l ++ [x]) = (l ++ [x]).length := run_all key fun z hz => by
   rcases List.mem_append.1 hz with hz | hz
   ·exact hall z hz
   ·rw [List.mem_singleton.1 hz]; exact hx
  refine ⟨[], f :: l, ?_, ?_⟩
  ·rw [he, List.take_of_length_le (Nat.le_refl _), List.drop_of_length_le (Nat.le_refl _), trs_nil]; rfl
  ·rw [hr, List.take_of_length_le (Nat.le_refl _), List.drop_of_length_le (Nat.le_refl _), trs_nil]; rfl
 ·have hlt : run key (key f) l < l.length := by omega
  have hy' : (l.drop (run key (key f) l)).getLast? = some y := by
   rw [List.getLast?_drop, if_neg (by omega)]
   rw [List.getLast?_cons] at hy
   cases hl : l.getLast? with
   | none => have := List.getLast?_eq_none_iff.1 hl; subst this; simp at hlt
   | some z => rw [hl] at hy; exact hy
  obtain ⟨A, g, e1, e2⟩ := ih ⟨y, hy', hk⟩
  refine ⟨(f :: l.take (run key (key f) l)) :: A, g, by rw [e1]; rfl, ?_⟩
  rw [run_app key hlt, List.take_append_of_le_length (by omega), List.drop_append_of_le_length (by omega), e2]
  rfl
inductive All2 {α β : Type} (R : α → β → Prop) : List α → List β → Prop
 | nil : All2 R [] []
 | cons {a : α} {b : β} {l : List α} {m : List β} : R a b → All2 R l m → All2 R (a :: l) (b :: m)
theorem run_same {β : Type} {k2 : β → Int} {R : α → β → Prop} (hR : ∀ a b, R a b → key a = k2 b) {t : Int} : ∀ {l : List α} {m : List β}, All2 R l m → run key t l = run k2 t m
 | _, _, .nil => rfl
 | _, _, .cons h hs => by rw [run, run, hR _ _ h, run_same hR hs]
theorem all2_take {β : Type} {R : α → β → Prop} : ∀ {l : List α} {m : List β} (n : Nat), All2 R l m → All2 R (l.take n) (m.take n)
 | _, _, 0, _ => .nil
 | _, _, n + 1, .nil => .nil
 | _, _, n + 1, .cons h hs => .cons h (all2_take n hs)
theorem all2_drop {β : Type} {R : α → β → Prop} : ∀ {l : List α} {m : List β} (n : Nat), All2 R l m → All2 R (l.drop n) (m.drop n)
 | _, _, 0, h => h
 | _, _, n + 1, .nil => .nil
 | _, _, n + 1, .cons h hs => all2_drop n hs
theorem trs_same {β : Type} {k2 : β → Int} {R : α → β → Prop} (hR : ∀ a b, R a b → key a = k2 b) : ∀ (l : List α) (m : List β), All2 R l m → All2 (All2 R) (trs key l) (trs k2 m) := by
 refine trs_ind (P := fun l => ∀ m : List β, All2 R l m → All2 (All2 R) (trs key l) (trs k2 m)) key (fun m h => by cases h; exact .nil) fun f l ih m h => ?_
 cases h with
 | cons h hs =>
  rename_i b m
  rw [trs_cons, trs_cons, ← hR _ _ h, ← run_same key hR hs]
  exact .cons (.cons h (all2_take _ hs)) (ih _ (all2_drop _ hs))
end
end Go.Smp
namespace Go.Num
def putZ (z : Nat) : List UInt8 := if z < 128 then [UInt8.ofNat z] else UInt8.ofNat (z % 128 + 128) :: putZ (z / 128)
termination_by z
decreasing_by omega
theorem putZ_lt {z : Nat} (h : z < 128) : putZ z = [UInt8.ofNat z] := by rw [putZ, if_pos h]
theorem putZ_ge {z : Nat} (h : 128 ≤ z) : putZ z = UInt8.ofNat (z % 128 + 128) :: putZ (z / 128) := by rw [putZ, if_neg (by omega)]
def zig (n : Int) : Nat := if n < 0 then (2 * -n - 1).toNat else (2 * n).toNat
def putI (n : Int) : List UInt8 := putZ (zig n)
theorem putZ_len1 (z : Nat) : 0 < (putZ z).length := by
 rw [putZ]; split <;> simp
theorem putZ_len (k z : Nat) (h : z < 128 ^ k) (hk : 0 < k) : (putZ z).length ≤ k := by
 induction k generalizing z with
 | zero => omega
 | succ k ih =>
  by_cases hz : z < 128
  ·rw [putZ_lt hz]; simp
  ·rw [putZ_ge (by omega), List.length_cons]
   have h0 : 0 < k := by
    rcases k with _ | k
    ·simp at h; omega
    ·omega
   have : z / 128 < 128 ^ k := by
    rw [Nat.pow_succ] at h
    omega
   have := ih _ this h0
   omega
theorem u8_toNat {z : Nat} (h : z < 256) : (UInt8.ofNat z).toNat = z := by
 rw [UInt8.toNat_ofNat']; exact Nat.mod_eq_of_lt h
theorem p128 : (128 : Nat) ^ 9 = 9223372036854775808 := by decide
theorem zig_lt {n : Int} (h1 : -4611686018427387903 ≤ n) (h2 : n ≤ 4611686018427387903) : zig n < 9223372036854775808 := by
 unfold zig
 split <;> omega
theorem putI_small {n : Int} (h : zig n < 128) : putI n = [UInt8.ofNat (zig n)] := putZ_lt h
def putS (s : List UInt8) : List UInt8 := putI s.length ++ s
end Go.Num
