/-
  Contracts and plain lemmas. By an AI agent.
-/
import Derived.Lib.ItoaNum
import Derived.Lib.Strings
import Derived.Lib.Atoi
import Derived.Lib.AtoiAll
set_option linter.unusedSimpArgs false
set_option linter.unusedVariables false
set_option linter.unusedSectionVars false
namespace Go.Num
def num : List Int → Int
 | [] => 0
 | d :: ds => d + 10000 * num ds
def Dg (xs : List Int) : Prop := ∀ d ∈ xs, 0 ≤ d ∧ d < 10000
def trimL : List Int → List Int
 | [] => []
 | d :: ds => if d = 0 ∧ trimL ds = [] then [] else d :: trimL ds
def Nrm (xs : List Int) : Prop := Dg xs ∧ trimL xs = xs
theorem num_append (xs ys : List Int) : num (xs ++ ys) = num xs + 10000 ^ xs.length * num ys := by
 induction xs with
 | nil => simp [num]
 | cons d ds ih => simp only [List.cons_append, num, ih, List.length_cons, Int.pow_succ]; grind
theorem num_nonneg {xs : List Int} (h : Dg xs) : 0 ≤ num xs := by
 induction xs with
 | nil => simp [num]
 | cons d ds ih =>
  have h1 := h d (by simp)
  have h2 := ih fun x hx => h x (by simp [hx])
  simp only [num]; omega
theorem num_lt {xs : List Int} (h : Dg xs) : num xs < 10000 ^ xs.length := by
 induction xs with
 | nil => simp [num]
 | cons d ds ih =>
  have h1 := h d (by simp)
  have h2 := ih fun x hx => h x (by simp [hx])
  simp only [num, List.length_cons, Int.pow_succ]; omega
theorem num_trimL (xs : List Int) : num (trimL xs) = num xs := by
 induction xs with
 | nil => rfl
 | cons d ds ih =>
  simp only [trimL]
  split
  ·next h => rw [h.2] at ih; simp only [num] at ih ⊢; omega
  ·simp only [num, ih]
theorem trimL_trimL (xs : List Int) : trimL (trimL xs) = trimL xs := by
 induction xs with
 | nil => rfl
 | cons d ds ih =>
  simp only [trimL]
  split
  ·rfl
  ·next h => simp only [trimL, ih, h, ↓reduceIte]
theorem trimL_mem {xs : List Int} {d : Int} (h : d ∈ trimL xs) : d ∈ xs := by
 induction xs with
 | nil => exact h
 | cons x xs ih =>
  simp only [trimL] at h
  split at h
  ·simp at h
  ·rcases List.mem_cons.1 h with h | h
   ·simp [h]
   ·simp [ih h]
theorem Nrm.trimL {xs : List Int} (h : Dg xs) : Nrm (trimL xs) := ⟨fun d hd => h d (trimL_mem hd), trimL_trimL xs⟩
theorem trimL_snoc_zero (xs : List Int) : trimL (xs ++ [0]) = trimL xs := by
 induction xs with
 | nil => rfl
 | cons d ds ih => simp only [List.cons_append, trimL, ih]
theorem trimL_snoc {d : Int} (hd : d ≠ 0) (xs : List Int) : trimL (xs ++ [d]) = xs ++ [d] := by
 induction xs with
 | nil => simp [trimL, hd]
 | cons x xs ih => simp [trimL, ih]
theorem Nrm.tail {d : Int} {ds : List Int} (h : Nrm (d :: ds)) : Nrm ds := by
 refine ⟨fun x hx => h.1 x (by simp [hx]), ?_⟩
 have := h.2
 simp only [Num.trimL] at this
 split at this
 ·simp at this
 ·simpa using this
theorem Nrm.pos {xs : List Int} (h : Nrm xs) (hne : xs ≠ []) : 0 < num xs := by
 induction xs with
 | nil => exact absurd rfl hne
 | cons d ds ih =>
  have hd := h.1 d (by simp)
  by_cases hds : ds = []
  ·subst hds
   have := h.2
   simp only [Num.trimL] at this
   by_cases h0 : d = 0
   ·simp [h0] at this
   ·simp only [num]; omega
  ·have := ih h.tail hds
   simp only [num]; omega
theorem Nrm.eq {xs ys : List Int} (hx : Nrm xs) (hy : Nrm ys) (h : num xs = num ys) : xs = ys := by
 induction xs generalizing ys with
 | nil =>
  cases ys with
  | nil => rfl
  | cons y ys => have := hy.pos (by simp); rw [← h] at this; simp [num] at this
 | cons x xs ih =>
  cases ys with
  | nil => have := hx.pos (by simp); rw [h] at this; simp [num] at this
  | cons y ys =>
   have h1 := hx.1 x (by simp)
   have h2 := hy.1 y (by simp)
   simp only [num] at h
   have hxy : x = y := by omega
   have : num xs = num ys := by omega
   rw [hxy, ih hx.tail hy.tail this]
theorem Nrm.ge {xs : List Int} (h : Nrm xs) (hne : xs ≠ []) : 10000 ^ (xs.length - 1) ≤ num xs := by
 induction xs with
 | nil => exact absurd rfl hne
 | cons d ds ih =>
  have hd := h.1 d (by simp)
  by_cases hds : ds = []
  ·subst hds
   have := h.pos (by simp)
   simp only [num, List.length_cons, List.length_nil] at this ⊢
   simp at this ⊢; omega
  ·have := ih h.tail hds
   obtain ⟨x, xs, rfl⟩ := List.exists_cons_of_ne_nil hds
   simp only [List.length_cons, Nat.add_sub_cancel] at this ⊢
   rw [Int.pow_succ]
   simp only [num] at this ⊢; omega
theorem pow_mono {a b : Nat} (h : a ≤ b) : (10000 : Int) ^ a ≤ 10000 ^ b := by
 obtain ⟨k, rfl⟩ := Nat.exists_eq_add_of_le h
 induction k with
 | zero => simp
 | succ k ih =>
  have := ih (by omega)
  rw [← Nat.add_assoc, Int.pow_succ]
  have h0 : (0 : Int) < 10000 ^ (a + k) := Int.pow_pos (by decide)
  omega
theorem Nrm.len {xs : List Int} (h : Nrm xs) {k : Nat} (hk : num xs < 10000 ^ k) : xs.length ≤ k := by
 by_cases hne : xs = []
 ·subst hne; simp
 ·have h1 := h.ge hne
  refine Classical.byContradiction fun hc => ?_
  have := pow_mono (a := k) (b := xs.length - 1) (by omega)
  omega
def tot (D : Nat → Int) : Nat → Int
 | 0 => 0
 | n + 1 => tot D n + D n * 10000 ^ n
theorem tot_stay {D : Nat → Int} {n : Nat} (h : ∀ i, n ≤ i → D i = 0) {m : Nat} (hm : n ≤ m) : tot D m = tot D n := by
 obtain ⟨k, rfl⟩ := Nat.exists_eq_add_of_le hm
 induction k with
 | zero => rfl
 | succ k ih => rw [← Nat.add_assoc]; simp only [tot]; rw [ih (by omega), h (n + k) (by omega)]; omega
def dig (xs : List Int) (i : Nat) : Int := xs[i]?.getD 0
theorem tot_dig_aux (xs : List Int) (n : Nat) : tot (dig xs) n = num (xs.take n) := by
 induction n with
 | zero => simp [tot, num]
 | succ n ih =>
  simp only [tot, ih]
  rw [List.take_add_one, num_append]
  unfold dig
  by_cases h : n < xs.length
  ·rw [List.getElem?_eq_getElem h]
   simp only [Option.getD_some, Option.toList_some, num, List.length_take, Nat.min_eq_left (Nat.le_of_lt h)]
   rw [Int.mul_comm]; simp
  ·rw [List.getElem?_eq_none (by omega)]
   simp [num]
theorem tot_dig {xs : List Int} {n : Nat} (h : xs.length ≤ n) : tot (dig xs) n = num xs := by
 rw [tot_dig_aux, List.take_of_length_le h]
theorem tot_add (D E : Nat → Int) (n : Nat) : tot (fun i => D i + E i) n = tot D n + tot E n := by
 induction n with
 | zero => rfl
 | succ n ih => simp only [tot, ih, Int.add_mul]; omega
theorem tot_sub (D E : Nat → Int) (n : Nat) : tot (fun i => D i - E i) n = tot D n - tot E n := by
 induction n with
 | zero => rfl
 | succ n ih => simp only [tot, ih, Int.sub_mul]; omega
theorem tot_mul (D : Nat → Int) (k : Int) (n : Nat) : tot (fun i => D i * k) n = tot D n * k := by
 induction n with
 | zero => simp [tot]
 | succ n ih => simp only [tot, ih, Int.add_mul]; grind
theorem dig_bound {xs : List Int} (h : Dg xs) (i : Nat) : 0 ≤ dig xs i ∧ dig xs i < 10000 := by
 unfold dig
 cases hx : xs[i]? with
 | none => simp
 | some d => exact h d (List.mem_of_getElem? hx)
theorem dig_out {xs : List Int} {i : Nat} (h : xs.length ≤ i) : dig xs i = 0 := by unfold dig; rw [List.getElem?_eq_none h]; rfl
theorem num_split (xs : List Int) (i : Nat) (h : i ≤ xs.length) : num xs = num (xs.take i) + 10000 ^ i * num (xs.drop i) := by
 conv => lhs; rw [← List.take_append_drop i xs]
 rw [num_append, List.length_take, Nat.min_eq_left h]
theorem Dg.take {xs : List Int} (h : Dg xs) (i : Nat) : Dg (xs.take i) := fun d hd => h d (List.mem_of_mem_take hd)
theorem Dg.drop {xs : List Int} (h : Dg xs) (i : Nat) : Dg (xs.drop i) := fun d hd => h d (List.mem_of_mem_drop hd)
theorem num_lt_of {xs ys : List Int} (hx : Dg xs) (hy : Dg ys) {i : Nat} (h1 : i < xs.length) (h2 : i < ys.length) (hd : xs.drop (i + 1) = ys.drop (i + 1)) (hlt : xs[i] < ys[i]) : num xs < num ys := by
 rw [num_split xs i (by omega), num_split ys i (by omega), List.drop_eq_getElem_cons h1, List.drop_eq_getElem_cons h2, hd]
 simp only [num]
 have a1 := num_lt (hx.take i)
 have a2 := num_nonneg (hy.take i)
 rw [List.length_take, Nat.min_eq_left (by omega)] at a1
 have hp : (0 : Int) < 10000 ^ i := Int.pow_pos (by decide)
 obtain ⟨k, hk⟩ : ∃ k, ys[i] = xs[i] + 1 + k ∧ 0 ≤ k := ⟨ys[i] - xs[i] - 1, by omega, by omega⟩
 rw [hk.1]
 have : (10000 : Int) ^ i * (xs[i] + 1 + k + 10000 * num (ys.drop (i + 1))) = 10000 ^ i * (xs[i] + 10000 * num (ys.drop (i + 1))) + 10000 ^ i + 10000 ^ i * k := by grind
 rw [this]
 have := Int.mul_nonneg (Int.le_of_lt hp) hk.2
 omega
theorem Nrm.lt_of_len {xs ys : List Int} (hx : Nrm xs) (hy : Nrm ys) (h : xs.length < ys.length) : num xs < num ys := by
 have h1 := num_lt hx.1
 have h2 := hy.ge (by intro hc; subst hc; simp at h)
 have := pow_mono (a := xs.length) (b := ys.length - 1) (by omega)
 omega
theorem Nrm.cons {d : Int} {xs : List Int} (h : Nrm xs) (hne : xs ≠ []) (h0 : 0 ≤ d) (h1 : d < 10000) : Nrm (d :: xs) := by
 refine ⟨fun x hx => ?_, ?_⟩
 ·rcases List.mem_cons.1 hx with rfl | hx
  ·exact ⟨h0, h1⟩
  ·exact h.1 x hx
 ·simp only [Num.trimL, h.2]
  rw [if_neg fun hc => hne hc.2]
theorem num_drop_le {xs : List Int} (h : Dg xs) (i : Nat) : num (xs.drop i) ≤ num xs := by
 by_cases hi : i ≤ xs.length
 ·rw [num_split xs i hi]
  have h1 := num_nonneg (h.take i)
  have h2 := num_nonneg (h.drop i)
  have hp : (0 : Int) < 10000 ^ i := Int.pow_pos (by decide)
  have : num (xs.drop i) * 1 ≤ num (xs.drop i) * 10000 ^ i := Int.mul_le_mul_of_nonneg_left (by omega) h2
  rw [Int.mul_comm] at this
  rw [Int.mul_comm (10000 ^ i)]
  omega
 ·rw [List.drop_of_length_le (by omega)]; exact num_nonneg h
open Go.Lib
theorem snocInd {α : Type} {p : List α → Prop} (l : List α) (nil : p []) (append_singleton : ∀ l a, p l → p (l ++ [a])) : p l := by
 have h : ∀ m : List α, p m.reverse := by
  intro m
  induction m with
  | nil => exact nil
  | cons a m ih => rw [List.reverse_cons]; exact append_singleton _ _ ih
 simpa using h l.reverse
theorem head_app {α : Type} {l : List α} (m : List α) (h : l ≠ []) : (l ++ m).head? = l.head? := by
 cases l with
 | nil => exact absurd rfl h
 | cons a l => rfl
def isD (b : UInt8) : Prop := 48 ≤ b.toNat ∧ b.toNat ≤ 57
instance (b : UInt8) : Decidable (isD b) := by unfold isD; infer_instance
def dv (l : List UInt8) : Nat := l.foldl (fun a b => a * 10 + (b.toNat - 48)) 0
theorem dv_snoc (l : List UInt8) (b : UInt8) : dv (l ++ [b]) = dv l * 10 + (b.toNat - 48) := by simp [dv, List.foldl_append]
theorem dv_append (l m : List UInt8) : dv (l ++ m) = dv l * 10 ^ m.length + dv m := by
 induction m using snocInd with
 | nil => simp [dv]
 | append_singleton m b ih =>
  rw [← List.append_assoc, dv_snoc, ih, dv_snoc]
  simp only [List.length_append, List.length_cons, List.length_nil, Nat.pow_succ]
  grind
theorem snoc_cases {α : Type} (l : List α) : l = [] ∨ ∃ m b, l = m ++ [b] := by
 rcases List.eq_nil_or_concat l with h | ⟨m, b, h⟩
 ·exact .inl h
 ·exact .inr ⟨m, b, by simpa using h⟩
theorem toNat_digit {d : Nat} (h : d < 10) : (UInt8.ofNat (48 + d)).toNat = 48 + d := by
 simp only [UInt8.toNat_ofNat']; omega
theorem dec_lt {u : Nat} (h : u < 10) : decDigits u = [UInt8.ofNat (48 + u)] := by rw [decDigits, dif_pos h]
theorem dec_ge {u : Nat} (h : ¬ u < 10) : decDigits u = decDigits (u / 10) ++ [UInt8.ofNat (48 + u % 10)] := by rw [decDigits, dif_neg h]
theorem dec_ne (u : Nat) : decDigits u ≠ [] := by
 by_cases h : u < 10
 ·rw [dec_lt h]; simp
 ·rw [dec_ge h]; simp
theorem dec_isD (u : Nat) : ∀ b ∈ decDigits u, isD b := by
 induction u using Nat.strongRecOn with
 | _ u ih =>
  by_cases h : u < 10
  ·rw [dec_lt h]
   intro b hb
   simp only [List.mem_singleton] at hb
   subst hb
   unfold isD; rw [toNat_digit h]; omega
  ·rw [dec_ge h]
   intro b hb
   rcases List.mem_append.1 hb with hb | hb
   ·exact ih _ (by omega) b hb
   ·simp only [List.mem_singleton] at hb
    subst hb
    unfold isD; rw [toNat_digit (by omega)]; omega
theorem dv_dec (u : Nat) : dv (decDigits u) = u := by
 induction u using Nat.strongRecOn with
 | _ u ih =>
  by_cases h : u < 10
  ·rw [dec_lt h]
   simp only [dv, List.foldl_cons, List.foldl_nil, toNat_digit h]; omega
  ·rw [dec_ge h, dv_snoc, ih _ (by omega), toNat_digit (by omega)]; omega
theorem dv_lt {l : List UInt8} (h : ∀ b ∈ l, isD b) : dv l < 10 ^ l.length := by
 induction l using snocInd with
 | nil => simp [dv]
 | append_singleton l b ih =>
  have h1 := ih fun x hx => h x (by simp [hx])
  have h2 := h b (by simp)
  unfold isD at h2
  rw [dv_snoc]
  simp only [List.length_append, List.length_cons, List.length_nil, Nat.pow_succ]
  omega
theorem byte_ext {a b : UInt8} (h : a.toNat = b.toNat) : a = b := UInt8.toNat_inj.1 h
theorem dec_dv {l : List UInt8} (h : ∀ b ∈ l, isD b) (hne : l ≠ []) (hh : l.length = 1 ∨ l.head? ≠ some 48) : decDigits (dv l) = l := by
 induction l using snocInd with
 | nil => exact absurd rfl hne
 | append_singleton l b ih =>
  have h2 := h b (by simp)
  unfold isD at h2
  have hb : UInt8.ofNat (48 + (b.toNat - 48)) = b := byte_ext (by rw [toNat_digit (by omega)]; omega)
  rw [dv_snoc]
  by_cases hl : l = []
  ·subst hl
   rw [show dv [] = 0 from rfl, dec_lt (by omega)]
   simp only [Nat.zero_mul, Nat.zero_add, hb, List.nil_append]
  ·have hhl : l.head? ≠ some 48 := by
    rcases hh with hh | hh
    ·exact absurd (by simpa using hh) hl
    ·rw [head_app _ hl] at hh; exact hh
   have ih' := ih (fun x hx => h x (by simp [hx])) hl (.inr hhl)
   have hpos : 0 < dv l := by
    refine Nat.pos_of_ne_zero fun hc => ?_
    rw [hc, dec_lt (by decide)] at ih'
    rw [← ih'] at hhl
    exact hhl rfl
   rw [dec_ge (by omega), show (dv l * 10 + (b.toNat - 48)) / 10 = dv l from by omega, show (dv l * 10 + (b.toNat - 48)) % 10 = b.toNat - 48 from by omega, ih', hb]
theorem dec_head {u : Nat} (h : u ≠ 0) : (decDigits u).head? ≠ some 48 := by
 induction u using Nat.strongRecOn with
 | _ u ih =>
  by_cases h1 : u < 10
  ·rw [dec_lt h1]
   intro hc
   simp only [List.head?_cons, Option.some.injEq] at hc
   have := congrArg UInt8.toNat hc
   rw [toNat_digit h1] at this
   have h3 : (48 : UInt8).toNat = 48 := rfl
   omega
  ·rw [dec_ge h1, head_app _ (dec_ne _)]
   exact ih _ (by omega) (by omega)
theorem dec_len {u k : Nat} (hk : 1 ≤ k) : (decDigits u).length ≤ k ↔ u < 10 ^ k := by
 constructor
 ·intro h
  have h1 := dv_lt (dec_isD u)
  rw [dv_dec] at h1
  exact Nat.lt_of_lt_of_le h1 (Nat.pow_le_pow_right (by decide) h)
 ·intro h
  induction k generalizing u with
  | zero => omega
  | succ k ih =>
   by_cases h1 : u < 10
   ·rw [dec_lt h1]; simp
   ·rw [dec_ge h1]
    have hk : 1 ≤ k := by
     refine Nat.pos_of_ne_zero fun hc => ?_
     subst hc; simp at h; omega
    have := ih (u := u / 10) hk (by rw [Nat.pow_succ] at h; omega)
    simp; omega
theorem dec_pad {a d : Nat} (ha : 0 < a) {k : Nat} (hd : d < 10 ^ k) (hk : 1 ≤ k) : decDigits (a * 10 ^ k + d) = decDigits a ++ (List.replicate (k - (decDigits d).length) 48 ++ decDigits d) := by
 have hl := (dec_len hk).2 hd
 rw [← dec_dv (l := decDigits a ++ (List.replicate (k - (decDigits d).length) 48 ++ decDigits d))]
 ·congr 1
  have h0 : ∀ n, dv (List.replicate n 48) = 0 := by
   intro n
   induction n with
   | zero => rfl
   | succ n ih => rw [List.replicate_succ', dv_snoc, ih]; rfl
  rw [dv_append, dv_dec, dv_append, h0, dv_dec]
  simp only [List.length_append, List.length_replicate]
  rw [show k - (decDigits d).length + (decDigits d).length = k from by omega]
  omega
 ·intro b hb
  rcases List.mem_append.1 hb with hb | hb
  ·exact dec_isD a b hb
  ·rcases List.mem_append.1 hb with hb | hb
   ·rw [List.mem_replicate] at hb
    rw [hb.2]; decide
   ·exact dec_isD d b hb
 ·simp [dec_ne]
 ·right
  rw [head_app _ (dec_ne _)]
  exact dec_head (by omega)
@[irreducible] def MaxI : Nat := 10 ^ 200
def validB (s : List UInt8) : Bool :=
 decide ((trimPrefix s [45] ≠ [] ∧ (trimPrefix s [45]).length ≤ 200 ∧ ∀ b ∈ trimPrefix s [45], isD b) ∧ (s = [48] ∨ (trimPrefix s [45]).head? ≠ some 48))
theorem trim_neg (l : List UInt8) : trimPrefix (45 :: l) [45] = l := by simp [trimPrefix, hasPrefix]
theorem trim_pos {l : List UInt8} (h : l.head? ≠ some 45) : trimPrefix l [45] = l := by
 cases l with
 | nil => simp [trimPrefix, hasPrefix]
 | cons a l =>
  have : a ≠ 45 := by simpa using h
  simp [trimPrefix, hasPrefix, this.symm]
theorem dec_head45 (u : Nat) : (decDigits u).head? ≠ some 45 := by
 intro hc
 have := dec_isD u 45 (List.mem_of_mem_head? hc)
 revert this; decide
theorem trim_itoa (z : Int) : trimPrefix (itoa z) [45] = decDigits z.natAbs := by
 unfold itoa
 split
 ·exact trim_neg _
 ·rw [trim_pos (dec_head45 _)]
  congr 1; omega
theorem valid_itoa (z : Int) : validB (itoa z) = decide (z.natAbs < MaxI) := by
 unfold validB
 rw [trim_itoa]
 rw [decide_eq_decide]
 have h1 := dec_ne z.natAbs
 have h2 := dec_isD z.natAbs
 have h3 : (decDigits z.natAbs).length ≤ 200 ↔ z.natAbs < MaxI := by unfold MaxI; exact dec_len (by decide)
 have h4 : itoa z = [48] ∨ (decDigits z.natAbs).head? ≠ some 48 := by
  by_cases hz : z = 0
  ·left; subst hz; unfold itoa; rw [if_neg (by decide)]; exact dec_lt (by decide)
  ·right; exact dec_head (by omega)
 constructor
 ·exact fun h => h3.1 h.1.2.1
 ·exact fun h => ⟨⟨h1, h3.2 h, h2⟩, h4⟩
theorem valid_ex {s : List UInt8} (h : validB s = true) : ∃ z : Int, z.natAbs < MaxI ∧ s = itoa z := by
 have h' := h
 unfold validB at h
 obtain ⟨⟨h1, h2, h3⟩, h4⟩ := of_decide_eq_true h
 by_cases hs : s.head? = some 45
 ·obtain ⟨l, rfl⟩ : ∃ l, s = 45 :: l := by
   cases s with
   | nil => simp at hs
   | cons a l => simp at hs; exact ⟨l, by rw [hs]⟩
  rw [trim_neg] at h1 h2 h3 h4
  have h5 : l.head? ≠ some 48 := by
   rcases h4 with h4 | h4
   ·simp at h4
   ·exact h4
  have h6 := dec_dv h3 h1 (.inr h5)
  have h7 : 0 < dv l := by
   refine Nat.pos_of_ne_zero fun hc => ?_
   rw [hc, dec_lt (by decide)] at h6
   rw [← h6] at h5; exact h5 rfl
  have h8 : 45 :: l = itoa (-(dv l : Int)) := by
   unfold itoa
   rw [if_pos (by omega), show (-(dv l : Int)).natAbs = dv l from by omega, h6]
  refine ⟨_, ?_, h8⟩
  rw [h8, valid_itoa] at h'
  exact of_decide_eq_true h'
 ·rw [trim_pos hs] at h1 h2 h3 h4
  have h6 := dec_dv h3 h1 (by
   rcases h4 with h4 | h4
   ·left; rw [h4]; rfl
   ·exact .inr h4)
  have h8 : s = itoa (dv s : Int) := by
   unfold itoa
   rw [if_neg (by omega), Int.toNat_natCast, h6]
  refine ⟨_, ?_, h8⟩
  rw [h8, valid_itoa] at h'
  exact of_decide_eq_true h'
theorem itoa_inj {x y : Int} (h : itoa x = itoa y) : x = y := by
 have h1 := congrArg (fun l => dv (trimPrefix l [45])) h
 simp only [trim_itoa, dv_dec] at h1
 have h2 := congrArg List.head? h
 by_cases hx : x < 0
 ·by_cases hy : y < 0
  ·omega
  ·unfold itoa at h2
   rw [if_pos hx, if_neg hy] at h2
   exact absurd h2.symm (dec_head45 _)
 ·by_cases hy : y < 0
  ·unfold itoa at h2
   rw [if_neg hx, if_pos hy] at h2
   exact absurd h2 (dec_head45 _)
  ·omega
theorem decFrom_dv (l : List UInt8) (h : ∀ b ∈ l, isD b) (acc : Nat) : decFrom acc l = some (acc * 10 ^ l.length + dv l) := by
 induction l generalizing acc with
 | nil => simp [decFrom, dv]
 | cons b r ih =>
  have hb := h b (by simp)
  have hdv : digitVal b = some (b.toNat - 48) := by unfold digitVal; unfold isD at hb; rw [if_pos hb]
  rw [decFrom, hdv]
  simp only
  rw [ih (fun x hx => h x (by simp [hx]))]
  have : dv (b :: r) = dv [b] * 10 ^ r.length + dv r := dv_append [b] r
  rw [this]
  have h1 : dv [b] = b.toNat - 48 := by simp [dv]
  rw [h1]
  simp only [List.length_cons, Nat.pow_succ]
  congr 1
  grind
theorem atoi_dv {l : List UInt8} (h : ∀ b ∈ l, isD b) (hne : l ≠ []) : atoi l = some (dv l : Int) := by
 cases l with
 | nil => exact absurd rfl hne
 | cons b r =>
  have hb := h b (by simp)
  unfold isD at hb
  have h1 : (b == 45) = false := by
   rw [beq_eq_false_iff_ne]; rintro rfl; revert hb; decide
  have h2 : (b == 43) = false := by
   rw [beq_eq_false_iff_ne]; rintro rfl; revert hb; decide
  unfold atoi
  simp only [h1, h2]
  unfold decNat
  have := decFrom_dv (b :: r) h 0
  simp [this]
theorem dv_seg {D : List UInt8} {k f : Nat} (hk : k ≤ D.length) (hf : f ≤ k) : dv (D.drop f) = dv ((D.take k).drop f) * 10 ^ (D.length - k) + dv (D.drop k) := by
 have : D.drop f = (D.take k).drop f ++ D.drop k := by
  have h1 : D = D.take k ++ D.drop k := (List.take_append_drop k D).symm
  conv => lhs; rw [h1]
  rw [List.drop_append_of_le_length (by simp; omega)]
 rw [this, dv_append]
 simp
theorem num_snoc (xs : List Int) (n : Int) : num (xs ++ [n]) = num xs + 10000 ^ xs.length * n := by
 rw [num_append]; simp [num]
structure Fr (p q : Int) : Prop where
 hp : p.natAbs < MaxI
 q0 : 0 < q
 hq : q.natAbs < MaxI
 hg : Int.gcd p q = 1
def sgnTo (d n : Int) : Int := if d < 0 then -n else n
def loN (n d : Int) : Int := sgnTo d n / (Int.gcd n d : Int)
def loD (n d : Int) : Int := sgnTo d d / (Int.gcd n d : Int)
theorem sgnTo_abs (d n : Int) : (sgnTo d n).natAbs = n.natAbs := by unfold sgnTo; split <;> omega
theorem sgnTo_pos {d : Int} (h : d ≠ 0) : 0 < sgnTo d d := by unfold sgnTo; split <;> omega
theorem sgnTo_gcd (n d : Int) : Int.gcd (sgnTo d n) (sgnTo d d) = Int.gcd n d := by
 unfold sgnTo; split
 ·rw [Int.gcd_neg, Int.neg_gcd]
 ·rfl
theorem gcd_dvdN (n d : Int) : (Int.gcd n d : Int) ∣ sgnTo d n := by
 have := Int.gcd_dvd_left (sgnTo d n) (sgnTo d d); rwa [sgnTo_gcd] at this
theorem gcd_dvdD (n d : Int) : (Int.gcd n d : Int) ∣ sgnTo d d := by
 have := Int.gcd_dvd_right (sgnTo d n) (sgnTo d d); rwa [sgnTo_gcd] at this
theorem gcd_pos' {n d : Int} (hd : d ≠ 0) : (0 : Int) < (Int.gcd n d : Int) := by
 have := Int.gcd_pos_iff.2 (.inr hd : n ≠ 0 ∨ d ≠ 0); omega
theorem loN_mul (n d : Int) : loN n d * (Int.gcd n d : Int) = sgnTo d n := Int.ediv_mul_cancel (gcd_dvdN n d)
theorem loD_mul (n d : Int) : loD n d * (Int.gcd n d : Int) = sgnTo d d := Int.ediv_mul_cancel (gcd_dvdD n d)
theorem lo_cross {n d : Int} (hd : d ≠ 0) : loN n d * d = n * loD n d := by
 have hg := gcd_pos' (n := n) hd
 have e1 := loN_mul n d
 have e2 := loD_mul n d
 have key : sgnTo d n * d = n * sgnTo d d := by unfold sgnTo; split <;> simp [Int.neg_mul, Int.mul_neg]
 rw [← e1, ← e2] at key
 refine Int.eq_of_mul_eq_mul_right (a := (Int.gcd n d : Int)) (by omega) ?_
 rw [Int.mul_right_comm, key, Int.mul_assoc]
theorem loD_pos {n d : Int} (hd : d ≠ 0) : 0 < loD n d := by
 have hg := gcd_pos' (n := n) hd
 have e2 := loD_mul n d
 have h := sgnTo_pos hd
 rw [← e2] at h
 exact Int.pos_of_mul_pos_left h hg
theorem abs_le_of_mul {a g s : Int} (hg : 0 < g) (h : a * g = s) : a.natAbs ≤ s.natAbs := by
 rw [← h, Int.natAbs_mul]
 exact Nat.le_mul_of_pos_right _ (by omega)
theorem lo_gcd {n d : Int} (hd : d ≠ 0) : Int.gcd (loN n d) (loD n d) = 1 := by
 have hg := gcd_pos' (n := n) hd
 have h := sgnTo_gcd n d
 rw [← loN_mul n d, ← loD_mul n d, Int.gcd_mul_right] at h
 simp only [Int.natAbs_natCast] at h
 exact Nat.eq_of_mul_eq_mul_right (by omega : 0 < Int.gcd n d) (by rw [h]; simp)
theorem lo_fr {n d : Int} (hn : n.natAbs < MaxI) (hd : d.natAbs < MaxI) (h0 : d ≠ 0) : Fr (loN n d) (loD n d) := by
 have hg := gcd_pos' (n := n) h0
 have h1 := abs_le_of_mul hg (loN_mul n d)
 have h2 := abs_le_of_mul hg (loD_mul n d)
 rw [sgnTo_abs] at h1 h2
 exact ⟨by omega, loD_pos h0, by omega, lo_gcd h0⟩
theorem dvd_of_cross {p q p' q' : Int} (g : Int.gcd p q = 1) (h : p * q' = p' * q) : q ∣ q' := by
 have h1 : q.natAbs ∣ p.natAbs * q'.natAbs := by
  rw [← Int.natAbs_mul, h, Int.natAbs_mul]; exact Nat.dvd_mul_left _ _
 have h2 : Nat.Coprime q.natAbs p.natAbs := by
  show Nat.gcd _ _ = 1
  rw [Nat.gcd_comm]; exact g
 exact Int.natAbs_dvd_natAbs.1 (h2.dvd_of_dvd_mul_left h1)
theorem fr_uniq {p q p' q' : Int} (hq : 0 < q) (hq' : 0 < q') (g : Int.gcd p q = 1) (g' : Int.gcd p' q' = 1) (h : p * q' = p' * q) : p = p' ∧ q = q' := by
 have e : q = q' := Int.dvd_antisymm (by omega) (by omega) (dvd_of_cross g h) (dvd_of_cross g' h.symm)
 subst e
 exact ⟨Int.eq_of_mul_eq_mul_right (by omega) h, rfl⟩
theorem lo_of_fr {p q : Int} (hq : 0 < q) (g : Int.gcd p q = 1) : loN p q = p ∧ loD p q = q := by
 unfold loN loD sgnTo
 rw [if_neg (by omega), if_neg (by omega), g]
 simp
theorem lo_eq {n d n' d' : Int} (hd : d ≠ 0) (hd' : d' ≠ 0) (h : n * d' = n' * d) : loN n d = loN n' d' ∧ loD n d = loD n' d' := by
 refine fr_uniq (loD_pos hd) (loD_pos hd') (lo_gcd hd) (lo_gcd hd') ?_
 have e1 := lo_cross (n := n) hd
 have e2 := lo_cross (n := n') hd'
 have : (loN n d * loD n' d') * (d * d') = (loN n' d' * loD n d) * (d * d') := by
  calc (loN n d * loD n' d') * (d * d') = (loN n d * d) * (loD n' d' * d') := by grind
   _ = (n * loD n d) * (loD n' d' * d') := by rw [e1]
   _ = (n * d') * loD n d * loD n' d' := by grind
   _ = (n' * d) * loD n d * loD n' d' := by rw [h]
   _ = (n' * loD n' d') * (loD n d * d) := by grind
   _ = (loN n' d' * d') * (loD n d * d) := by rw [e2]
   _ = _ := by grind
 exact Int.eq_of_mul_eq_mul_right (Int.mul_ne_zero hd hd') this
theorem Fr.lo {p q n d : Int} (a : Fr p q) (hd : d ≠ 0) (h : p * d = n * q) : loN n d = p ∧ loD n d = q := by
 have := lo_eq (n := n) (d := d) (n' := p) (d' := q) hd (by have := a.q0; omega) h.symm
 obtain ⟨h1, h2⟩ := lo_of_fr a.q0 a.hg
 rw [h1, h2] at this
 exact this
theorem maxI1 : 1 < MaxI := by unfold MaxI; decide
theorem Fr.ofInt {z : Int} (h : z.natAbs < MaxI) : Fr z 1 := ⟨h, by decide, maxI1, Int.gcd_one⟩
theorem Fr.neg {p q : Int} (h : Fr p q) : Fr (-p) q := ⟨by rw [Int.natAbs_neg]; exact h.hp, h.q0, h.hq, by rw [Int.neg_gcd]; exact h.hg⟩
theorem lt_of_div_lt {p q p' q' : Int} (hq : 0 < q) (hq' : 0 < q') (h : p / q < p' / q') : p * q' < p' * q := by
 have h1 := Int.mul_ediv_add_emod p q
 have h2 := Int.emod_lt_of_pos p hq
 have h3 := Int.mul_ediv_add_emod p' q'
 have h4 := Int.emod_nonneg p' (show q' ≠ 0 by omega)
 have a1 : p < q * (p / q + 1) := by rw [Int.mul_add, Int.mul_one]; omega
 have a2 : q' * (p' / q') ≤ p' := by omega
 have b1 : p * q' < q * (p / q + 1) * q' := Int.mul_lt_mul_of_pos_right a1 hq'
 have b2 : q' * (p' / q') * q ≤ p' * q := Int.mul_le_mul_of_nonneg_right a2 (Int.le_of_lt hq)
 have b3 : q * (p / q + 1) * q' ≤ q' * (p' / q') * q := by
  have : q * q' * (p / q + 1) ≤ q * q' * (p' / q') := Int.mul_le_mul_of_nonneg_left (by omega) (Int.le_of_lt (Int.mul_pos hq hq'))
  calc q * (p / q + 1) * q' = q * q' * (p / q + 1) := by grind
   _ ≤ q * q' * (p' / q') := this
   _ = _ := by grind
 omega
theorem cross_rem {p q p' q' : Int} (h : p / q = p' / q') : p * q' - p' * q = (p % q) * q' - (p' % q') * q := by
 have h1 := Int.mul_ediv_add_emod p q
 have h3 := Int.mul_ediv_add_emod p' q'
 rw [← h] at h3
 generalize p / q = u at h1 h3
 generalize p % q = r at h1 ⊢
 generalize p' % q' = s at h3 ⊢
 subst h1; subst h3
 grind
theorem den_ne (x : Rat) : (x.den : Rat) ≠ 0 := by
 have := x.den_nz
 exact_mod_cast this
theorem num_den (x : Rat) : (x.num : Rat) / (x.den : Rat) = x := by
 have h := Rat.num_divInt_den x
 rw [Rat.divInt_eq_div] at h
 exact_mod_cast h
theorem rat_gcd (x : Rat) : Int.gcd x.num (x.den : Int) = 1 := x.reduced
theorem int_ne {d : Int} (h : d ≠ 0) : (d : Rat) ≠ 0 := by exact_mod_cast h
theorem rat_cross {a b c d : Int} (hb : b ≠ 0) (hd : d ≠ 0) (h : (a : Rat) / b = (c : Rat) / d) : a * d = c * b := by
 have h1 := int_ne hb
 have h2 := int_ne hd
 have : (a : Rat) * d = c * b := by
  rw [Rat.div_def, Rat.div_def] at h
  grind
 exact_mod_cast this
theorem den_pos (x : Rat) : (0 : Int) < (x.den : Int) := by have := x.den_nz; omega
theorem num_den' (x : Rat) : (x.num : Rat) / ((x.den : Int) : Rat) = x := by have := num_den x; exact_mod_cast this
theorem lo_rat {n d : Int} (hd : d ≠ 0) : ((n : Rat) / d).num = loN n d ∧ ((((n : Rat) / d).den : Nat) : Int) = loD n d := by
 have hq := den_pos ((n : Rat) / d)
 refine fr_uniq hq (loD_pos hd) (rat_gcd _) (lo_gcd hd) ?_
 have h1 : (((n : Rat) / d).num : Rat) / ((((n : Rat) / d).den : Int) : Rat) = (n : Rat) / d := num_den' _
 have h2 := rat_cross (by omega) hd h1
 have h3 := lo_cross (n := n) hd
 have h4 := loD_pos (n := n) hd
 refine Int.eq_of_mul_eq_mul_right (a := d) hd ?_
 calc ((n : Rat) / d).num * loD n d * d = (((n : Rat) / d).num * d) * loD n d := by grind
  _ = (n * (((n : Rat) / d).den : Int)) * loD n d := by rw [h2]
  _ = (n * loD n d) * (((n : Rat) / d).den : Int) := by grind
  _ = _ := by rw [← h3]; grind
theorem Fr.rat {p q : Int} (h : Fr p q) : ((p : Rat) / q).num = p ∧ ((((p : Rat) / q).den : Nat) : Int) = q := by
 have h0 := h.q0
 obtain ⟨h1, h2⟩ := lo_rat (n := p) (d := q) (by omega)
 obtain ⟨h3, h4⟩ := lo_of_fr h.q0 h.hg
 rw [h3] at h1; rw [h4] at h2
 exact ⟨h1, h2⟩
structure RB (x : Rat) : Prop where
 n : x.num.natAbs < MaxI
 d : ((x.den : Nat) : Int).natAbs < MaxI
theorem RB.fr {x : Rat} (h : RB x) : Fr x.num x.den := ⟨h.n, den_pos x, h.d, rat_gcd x⟩
theorem Fr.rb {p q : Int} (h : Fr p q) : RB ((p : Rat) / q) := by
 obtain ⟨h1, h2⟩ := h.rat
 exact ⟨by rw [h1]; exact h.hp, by rw [h2]; exact h.hq⟩
theorem rb_div {n d : Int} (hn : n.natAbs < MaxI) (hd : d.natAbs < MaxI) (h0 : d ≠ 0) : RB ((n : Rat) / d) := by
 obtain ⟨h1, h2⟩ := lo_rat (n := n) h0
 have h := lo_fr hn hd h0
 exact ⟨by rw [h1]; exact h.hp, by rw [h2]; exact h.hq⟩
theorem rat_ext {x y : Rat} (h1 : x.num = y.num) (h2 : x.den = y.den) : x = y := by
 rw [← num_den x, ← num_den y, h1, h2]
theorem q_add (x y : Rat) : (((x.num * (y.den : Int) + y.num * (x.den : Int)) : Int) : Rat) / (((x.den : Int) * (y.den : Int) : Int) : Rat) = x + y := by
 have h1 := den_ne x
 have h2 := den_ne y
 have e1 := num_den x
 have e2 := num_den y
 push_cast
 generalize (x.num : Rat) = a at *
 generalize (y.num : Rat) = b at *
 generalize (x.den : Rat) = c at *
 generalize (y.den : Rat) = d at *
 subst e1; subst e2
 grind
theorem q_sub (x y : Rat) : (((x.num * (y.den : Int) - y.num * (x.den : Int)) : Int) : Rat) / (((x.den : Int) * (y.den : Int) : Int) : Rat) = x - y := by
 have h1 := den_ne x
 have h2 := den_ne y
 have e1 := num_den x
 have e2 := num_den y
 push_cast
 generalize (x.num : Rat) = a at *
 generalize (y.num : Rat) = b at *
 generalize (x.den : Rat) = c at *
 generalize (y.den : Rat) = d at *
 subst e1; subst e2
 grind
theorem q_mul (x y : Rat) : (((x.num * y.num) : Int) : Rat) / (((x.den : Int) * (y.den : Int) : Int) : Rat) = x * y := by
 have h1 := den_ne x
 have h2 := den_ne y
 have e1 := num_den x
 have e2 := num_den y
 push_cast
 generalize (x.num : Rat) = a at *
 generalize (y.num : Rat) = b at *
 generalize (x.den : Rat) = c at *
 generalize (y.den : Rat) = d at *
 subst e1; subst e2
 grind
theorem q_div (x y : Rat) (h0 : y.num ≠ 0) : (((x.num * (y.den : Int)) : Int) : Rat) / (((x.den : Int) * y.num : Int) : Rat) = x / y := by
 have h1 := den_ne x
 have h2 := den_ne y
 have h3 := int_ne h0
 have e1 := num_den x
 have e2 := num_den y
 push_cast
 generalize (x.num : Rat) = a at *
 generalize (y.num : Rat) = b at *
 generalize (x.den : Rat) = c at *
 generalize (y.den : Rat) = d at *
 subst e1; subst e2
 grind
theorem num_zero {x : Rat} : x.num = 0 ↔ x = 0 := by
 constructor
 ·intro h
  rw [← num_den x, h]; simp [Rat.div_def]
 ·intro h; rw [h]; rfl
theorem num_le {n d : Int} (hd : d ≠ 0) : ((n : Rat) / d).num.natAbs ≤ n.natAbs := by
 rw [(lo_rat (n := n) hd).1, ← sgnTo_abs d n]
 exact abs_le_of_mul (gcd_pos' (n := n) hd) (loN_mul n d)
theorem den_le {n d : Int} (hd : d ≠ 0) : ((((n : Rat) / d).den : Nat) : Int).natAbs ≤ d.natAbs := by
 rw [(lo_rat (n := n) hd).2, ← sgnTo_abs d d]
 exact abs_le_of_mul (gcd_pos' (n := n) hd) (loD_mul n d)
theorem dd_ne (x y : Rat) : (x.den : Int) * (y.den : Int) ≠ 0 := Int.mul_ne_zero (Int.ne_of_gt (den_pos x)) (Int.ne_of_gt (den_pos y))
theorem den_int (z : Int) : ((z : Int) : Rat).den = 1 := rfl
theorem RB.int {z : Int} (h : z.natAbs < MaxI) : RB (z : Rat) := ⟨h, by rw [den_int]; exact maxI1⟩
end Go.Num
namespace Go.Num
abbrev El := Rat × Rat
def sumR (f : El → Rat) : List El → Rat
 | [] => 0
 | e :: l => f e + sumR f l
def kept : Nat → List El → List El
 | _, [] => []
 | k, e :: l => if k % 2 = 1 then e :: kept (k / 2) l else kept (k / 2) l
def wt : Nat → List El → Rat
 | _, [] => 1
 | k, e :: l => (if k % 2 = 1 then e.2 else 1 - e.2) * wt (k / 2) l
def sumN : Nat → (Nat → Rat) → Rat
 | 0, _ => 0
 | n + 1, F => sumN n F + F n
def DR (D M : Nat) (x : Rat) : Prop := ∃ n : Int, x = (n : Rat) / ((D : Int) : Rat) ∧ n.natAbs ≤ M * D
theorem dr_ne {D : Nat} (h : 0 < D) : (((D : Nat) : Int) : Rat) ≠ 0 := int_ne (by omega)
section
variable {D E M N : Nat} {x y : Rat}
theorem DR.add (hx : DR D M x) (hy : DR D N y) (hD : 0 < D) : DR D (M + N) (x + y) := by
 obtain ⟨n, rfl, hn⟩ := hx
 obtain ⟨m, rfl, hm⟩ := hy
 have h := dr_ne hD
 refine ⟨n + m, by rw [Rat.intCast_add]; grind, ?_⟩
 rw [Nat.add_mul]; omega
theorem DR.sub (hx : DR D M x) (hy : DR D N y) (hD : 0 < D) : DR D (M + N) (x - y) := by
 obtain ⟨n, rfl, hn⟩ := hx
 obtain ⟨m, rfl, hm⟩ := hy
 have h := dr_ne hD
 refine ⟨n - m, by rw [Rat.intCast_sub]; grind, ?_⟩
 rw [Nat.add_mul]; omega
theorem DR.mul (hx : DR D M x) (hy : DR E N y) (hD : 0 < D) (hE : 0 < E) : DR (D * E) (M * N) (x * y) := by
 obtain ⟨n, rfl, hn⟩ := hx
 obtain ⟨m, rfl, hm⟩ := hy
 have h := dr_ne hD
 have h' := dr_ne hE
 refine ⟨n * m, ?_, ?_⟩
 ·rw [Rat.intCast_mul, Int.natCast_mul, Rat.intCast_mul]; grind
 ·rw [Int.natAbs_mul, show M * N * (D * E) = (M * D) * (N * E) by rw [Nat.mul_assoc, Nat.mul_assoc]; congr 1; rw [← Nat.mul_assoc, ← Nat.mul_assoc, Nat.mul_comm N D]]
  exact Nat.mul_le_mul hn hm
theorem DR.mono (hx : DR D M x) (hD : 0 < D) (hE : 0 < E) (h : D ∣ E) (hM : M ≤ N) : DR E N x := by
 obtain ⟨n, rfl, hn⟩ := hx
 obtain ⟨c, rfl⟩ := h
 have hc : 0 < c := Nat.pos_of_ne_zero (fun h => by rw [h] at hE; omega)
 have h := dr_ne hD
 have h' := dr_ne hc
 refine ⟨n * (c : Int), ?_, ?_⟩
 ·rw [Rat.intCast_mul, Int.natCast_mul, Rat.intCast_mul]; grind
 ·rw [Int.natAbs_mul, Int.natAbs_natCast, ← Nat.mul_assoc]
  exact Nat.mul_le_mul (Nat.le_trans hn (Nat.mul_le_mul_right D hM)) (Nat.le_refl c)
theorem DR.zero : DR D M 0 := ⟨0, by grind, by simp⟩
theorem DR.num (hx : DR D M x) (hD : 0 < D) : x.num.natAbs ≤ M * D ∧ ((x.den : Nat) : Int).natAbs ≤ D := by
 obtain ⟨n, rfl, hn⟩ := hx
 have h : ((D : Nat) : Int) ≠ 0 := by omega
 exact ⟨Nat.le_trans (num_le h) hn, by have := den_le (n := n) h; omega⟩
theorem DR.of {n : Int} {d : Int} (h0 : 0 < d) (hd : d.natAbs ∣ D) (hD : 0 < D) (hn : n.natAbs ≤ M) : DR D M ((n : Rat) / (d : Rat)) := by
 have : DR d.natAbs M ((n : Rat) / (d : Rat)) := ⟨n, by rw [Int.natAbs_of_nonneg (by omega)], Nat.le_trans hn (Nat.le_mul_of_pos_right _ (by omega))⟩
 exact this.mono (by omega) hD hd (Nat.le_refl _)
end
theorem DR.sumR {D M : Nat} (hD : 0 < D) {f : El → Rat} : ∀ {l : List El}, (∀ e ∈ l, DR D M (f e)) → DR D (l.length * M) (sumR f l)
 | [], _ => .zero
 | e :: l, h => by
  have h1 := h e (by simp)
  have h2 := DR.sumR hD (f := f) (l := l) (fun x hx => h x (by simp [hx]))
  have := h1.add h2 hD
  rw [List.length_cons, Nat.add_mul, Nat.one_mul, Nat.add_comm]
  exact this
theorem DR.sumN {D M : Nat} (hD : 0 < D) {F : Nat → Rat} : ∀ {n : Nat}, (∀ k, k < n → DR D M (F k)) → DR D (n * M) (sumN n F)
 | 0, _ => .zero
 | n + 1, h => by
  rw [Nat.add_mul, Nat.one_mul]
  exact (DR.sumN hD (fun k hk => h k (by omega))).add (h n (by omega)) hD
theorem DR.one {D : Nat} (hD : 0 < D) : DR D 1 1 := by
 refine ⟨(D : Int), ?_, by simp⟩
 have := dr_ne hD
 grind
theorem DR.wt {D : Nat} (hD : 0 < D) : ∀ {l : List El} (k : Nat), (∀ e ∈ l, DR D 1 e.2 ∧ DR D 1 (1 - e.2)) → DR (D ^ l.length) 1 (wt k l)
 | [], k, _ => .one (by rw [List.length_nil, Nat.pow_zero]; decide)
 | e :: l, k, h => by
  have h1 := h e (by simp)
  have h2 := DR.wt hD (l := l) (k / 2) (fun x hx => h x (by simp [hx]))
  rw [List.length_cons, Nat.pow_succ, Nat.mul_comm]
  have hp : 0 < D ^ l.length := Nat.pow_pos hD
  unfold Num.wt
  split
  ·exact h1.1.mul h2 hD hp
  ·exact h1.2.mul h2 hD hp
def putZ (z : Nat) : List UInt8 := if z < 128 then [UInt8.ofNat z] else UInt8.ofNat (z % 128 + 128) :: putZ (z / 128)
termination_by z
decreasing_by omega
theorem putZ_lt {z : Nat} (h : z < 128) : putZ z = [UInt8.ofNat z] := by rw [putZ, if_pos h]
theorem putZ_ge {z : Nat} (h : 128 ≤ z) : putZ z = UInt8.ofNat (z % 128 + 128) :: putZ (z / 128) := by rw [putZ, if_neg (by omega)]
def zig (n : Int) : Nat := if n < 0 then (2 * -n - 1).toNat else (2 * n).toNat
def zag (z : Nat) : Int := if z % 2 = 1 then -((z / 2 : Nat) : Int) - 1 else ((z / 2 : Nat) : Int)
theorem zag_zig (n : Int) : zag (zig n) = n := by
 unfold zag zig
 split
 ·rw [if_pos (by omega)]; omega
 ·rw [if_neg (by omega)]; omega
theorem zig_zag (z : Nat) : zig (zag z) = z := by
 unfold zag
 split
 ·unfold zig; rw [if_pos (by omega)]; omega
 ·unfold zig; rw [if_neg (by omega)]; omega
def vI : Nat → Nat → Nat → List UInt8 → Option (Int × Nat)
 | 0, _, _, _ => none
 | _ + 1, _, _, [] => none
 | f + 1, i, z, b :: t => if 128 ≤ b.toNat then vI f (i + 1) (z + b.toNat % 128 * 128 ^ i) t else if (b.toNat = 0 ∧ 0 < i) ∨ zag (z + b.toNat % 128 * 128 ^ i) < -4611686018427387903 then none else some (zag (z + b.toNat % 128 * 128 ^ i), i + 1)
def decI (l : List UInt8) : Option (Int × Nat) := vI 9 0 0 l
def putI (n : Int) : List UInt8 := putZ (zig n)
theorem putZ_len1 (z : Nat) : 0 < (putZ z).length := by
 rw [putZ]; split <;> simp
theorem putZ_len (k z : Nat) (h : z < 128 ^ k) (hk : 0 < k) : (putZ z).length ≤ k := by
 induction k generalizing z with
 | zero => omega
 | succ k ih =>
  by_cases hz : z < 128
  ·rw [putZ_lt hz]; simp
  ·rw [putZ_ge (by omega), List.length_cons]
   have h0 : 0 < k := by
    rcases k with _ | k
    ·simp at h; omega
    ·omega
   have : z / 128 < 128 ^ k := by
    rw [Nat.pow_succ] at h
    omega
   have := ih _ this h0
   omega
theorem putZ_bd (k z : Nat) (h : (putZ z).length ≤ k) : z < 128 ^ k := by
 induction k generalizing z with
 | zero => have := putZ_len1 z; omega
 | succ k ih =>
  by_cases hz : z < 128
  ·have : 1 ≤ 128 ^ k := Nat.pos_of_ne_zero (by simp)
   rw [Nat.pow_succ]; omega
  ·rw [putZ_ge (by omega), List.length_cons] at h
   have := ih (z / 128) (by omega)
   rw [Nat.pow_succ]
   omega
theorem u8_toNat {z : Nat} (h : z < 256) : (UInt8.ofNat z).toNat = z := by
 rw [UInt8.toNat_ofNat']; exact Nat.mod_eq_of_lt h
theorem u8_of {b : UInt8} : UInt8.ofNat b.toNat = b := by
 apply UInt8.toNat_inj.1
 rw [u8_toNat (UInt8.toNat_lt b)]
theorem vI_put (z : Nat) : ∀ (f i z0 : Nat) (r : List UInt8), (putZ z).length ≤ f → (z ≠ 0 ∨ i = 0) → -4611686018427387903 ≤ zag (z0 + z * 128 ^ i) → vI f i z0 (putZ z ++ r) = some (zag (z0 + z * 128 ^ i), i + (putZ z).length) := by
 induction z using Nat.strongRecOn with
 | ind z ih =>
  intro f i z0 r hf hz hm
  by_cases h : z < 128
  ·rw [putZ_lt h] at hf ⊢
   rcases f with _ | f
   ·simp at hf
   ·show vI (f + 1) i z0 (UInt8.ofNat z :: r) = _
    unfold vI
    rw [u8_toNat (by omega), if_neg (by omega), Nat.mod_eq_of_lt h, if_neg (by omega)]
    simp
  ·rw [putZ_ge (by omega)] at hf ⊢
   rcases f with _ | f
   ·simp at hf
   ·show vI (f + 1) i z0 (UInt8.ofNat (z % 128 + 128) :: (putZ (z / 128) ++ r)) = _
    have e2 : z0 + z % 128 * 128 ^ i + z / 128 * 128 ^ (i + 1) = z0 + z * 128 ^ i := by
     have : z % 128 * 128 ^ i + z / 128 * (128 ^ i * 128) = z * 128 ^ i := by
      rw [show z / 128 * (128 ^ i * 128) = (z / 128 * 128) * 128 ^ i by rw [Nat.mul_assoc, Nat.mul_comm 128], ← Nat.add_mul]
      congr 1
      omega
     rw [Nat.pow_succ]; omega
    have e1 : (z % 128 + 128) % 128 = z % 128 := by omega
    unfold vI
    rw [u8_toNat (by omega), if_pos (by omega), e1, ih (z / 128) (by omega) f (i + 1) (z0 + z % 128 * 128 ^ i) r (by simpa using hf) (by omega) (by rw [e2]; exact hm), e2, List.length_cons]
    congr 2
    omega
theorem vI_get (f : Nat) : ∀ (i z0 : Nat) (l : List UInt8) (n : Int) (k : Nat), vI f i z0 l = some (n, k) →
 ∃ z r, l = putZ z ++ r ∧ n = zag (z0 + z * 128 ^ i) ∧ k = i + (putZ z).length ∧ (z ≠ 0 ∨ i = 0) ∧ -4611686018427387903 ≤ n ∧ (putZ z).length ≤ f := by
 induction f with
 | zero => intro i z0 l n k h; simp [vI] at h
 | succ f ih =>
  intro i z0 l n k h
  rcases l with _ | ⟨b, t⟩
  ·simp [vI] at h
  ·unfold vI at h
   have hb := UInt8.toNat_lt b
   split at h
   ·next h1 =>
    obtain ⟨z, r, rfl, rfl, rfl, hz, hn, hl⟩ := ih _ _ _ _ _ h
    have hz0 : z ≠ 0 := by omega
    have e : putZ (b.toNat % 128 + 128 * z) = b :: putZ z := by
     rw [putZ_ge (by omega)]
     congr 1
     ·apply UInt8.toNat_inj.1
      rw [u8_toNat (by omega)]; omega
     ·congr 1; omega
    have e2 : z0 + b.toNat % 128 * 128 ^ i + z * 128 ^ (i + 1) = z0 + (b.toNat % 128 + 128 * z) * 128 ^ i := by
     rw [Nat.pow_succ, Nat.add_mul, Nat.mul_comm 128 z, Nat.mul_assoc z, Nat.mul_comm 128 (128 ^ i)]; omega
    refine ⟨b.toNat % 128 + 128 * z, r, by rw [e]; rfl, by rw [e2], by rw [e, List.length_cons]; omega, .inl (by omega), hn, by rw [e, List.length_cons]; omega⟩
   ·next h1 =>
    split at h
    ·cases h
    ·next h2 =>
     cases h
     have e : putZ b.toNat = [b] := by rw [putZ_lt (by omega), u8_of]
     have e3 : b.toNat % 128 = b.toNat := by omega
     rw [e3] at h2 ⊢
     refine ⟨b.toNat, t, by rw [e]; rfl, rfl, by rw [e]; rfl, by omega, by omega, by rw [e]; simp⟩
theorem p128 : (128 : Nat) ^ 9 = 9223372036854775808 := by decide
theorem zig_lt {n : Int} (h1 : -4611686018427387903 ≤ n) (h2 : n ≤ 4611686018427387903) : zig n < 9223372036854775808 := by
 unfold zig
 split <;> omega
theorem decI_put {n : Int} (h1 : -4611686018427387903 ≤ n) (h2 : n ≤ 4611686018427387903) (r : List UInt8) : decI (putI n ++ r) = some (n, (putI n).length) := by
 have hz := zig_lt h1 h2
 have := vI_put (zig n) 9 0 0 r (putZ_len 9 _ (by rw [p128]; exact hz) (by decide)) (.inr rfl) (by simp; rw [zag_zig]; exact h1)
 simp only [Nat.zero_add, Nat.pow_zero, Nat.mul_one] at this
 rw [zag_zig] at this
 exact this
theorem decI_get {l : List UInt8} {n : Int} {k : Nat} (h : decI l = some (n, k)) : -4611686018427387903 ≤ n ∧ n ≤ 4611686018427387903 ∧ k = (putI n).length ∧ ∃ r, l = putI n ++ r := by
 obtain ⟨z, r, h1, h2, h3, _, h5, h6⟩ := vI_get 9 0 0 l n k h
 simp only [Nat.zero_add, Nat.pow_zero, Nat.mul_one] at h2 h3
 have hz := putZ_bd 9 z h6
 rw [p128] at hz
 have e : putI n = putZ z := by unfold putI; rw [h2, zig_zag]
 refine ⟨h5, ?_, by rw [e]; exact h3, r, by rw [e]; exact h1⟩
 rw [h2]; unfold zag; split <;> omega
theorem putI_small {n : Int} (h : zig n < 128) : putI n = [UInt8.ofNat (zig n)] := putZ_lt h
def putS (s : List UInt8) : List UInt8 := putI s.length ++ s
def decS (l : List UInt8) : Option (List UInt8 × Nat) :=
 match decI l with
 | none => none
 | some (n, k) => if n < 0 ∨ 65536 < n ∨ (l.length : Int) - k < n then none else some ((l.drop k).take n.toNat, k + n.toNat)
theorem decS_put {s : List UInt8} (h : s.length ≤ 65536) (r : List UInt8) : decS (putS s ++ r) = some (s, (putS s).length) := by
 unfold decS putS
 rw [List.append_assoc, decI_put (by omega) (by omega)]
 simp only
 rw [if_neg (by simp only [List.length_append]; omega)]
 simp only [List.drop_left', Int.toNat_natCast, List.length_append]
 simp
theorem decS_get {l s : List UInt8} {k : Nat} (h : decS l = some (s, k)) : s.length ≤ 65536 ∧ k = (putS s).length ∧ ∃ r, l = putS s ++ r := by
 unfold decS at h
 split at h
 ·cases h
 ·next n j hd =>
  obtain ⟨h1, h2, h3, r, h4⟩ := decI_get hd
  split at h
  ·cases h
  ·next hn =>
   injection h with h
   injection h with e1 e2
   have hj : l.drop j = r := by rw [h4, h3]; simp
   rw [hj] at e1
   have hr : n.toNat ≤ r.length := by
    rw [h4, List.length_append, ← h3] at hn
    omega
   have hs : s.length = n.toNat := by rw [← e1, List.length_take]; omega
   have en : (s.length : Int) = n := by omega
   refine ⟨by omega, ?_, r.drop n.toNat, ?_⟩
   ·unfold putS; rw [en, List.length_append, ← h3, hs]; exact e2.symm
   ·unfold putS; rw [en, h4, List.append_assoc, ← e1, List.take_append_drop]
end Go.Num
