/-
  Contracts and plain lemmas. By an AI agent.
-/
import Derived.Lib.ItoaNum
import Derived.Lib.Strings
import Derived.Lib.Atoi
import Derived.Lib.AtoiAll
set_option linter.unusedSimpArgs false
set_option linter.unusedVariables false
set_option linter.unusedSectionVars false
namespace Go.Num
def num : List Int → Int
 | [] => 0
 | d :: ds => d + 10000 * num ds
def Dg (xs : List Int) : Prop := ∀ d ∈ xs, 0 ≤ d ∧ d < 10000
def trimL : List Int → List Int
 | [] => []
 | d :: ds => if d = 0 ∧ trimL ds = [] then [] else d :: trimL ds
def Nrm (xs : List Int) : Prop := Dg xs ∧ trimL xs = xs
theorem num_append (xs ys : List Int) : num (xs ++ ys) = num xs + 10000 ^ xs.length * num ys := by
 induction xs with
 | nil => simp [num]
 | cons d ds ih => simp only [List.cons_append, num, ih, List.length_cons, Int.pow_succ]; grind
theorem num_nonneg {xs : List Int} (h : Dg xs) : 0 ≤ num xs := by
 induction xs with
 | nil => simp [num]
 | cons d ds ih =>
  have h1 := h d (by simp)
  have h2 := ih fun x hx => h x (by simp [hx])
  simp only [num]; omega
theorem num_lt {xs : List Int} (h : Dg xs) : num xs < 10000 ^ xs.length := by
 induction xs with
 | nil => simp [num]
 | cons d ds ih =>
  have h1 := h d (by simp)
  have h2 := ih fun x hx => h x (by simp [hx])
  simp only [num, List.length_cons, Int.pow_succ]; omega
theorem num_trimL (xs : List Int) : num (trimL xs) = num xs := by
 induction xs with
 | nil => rfl
 | cons d ds ih =>
  simp only [trimL]
  split
  ·next h => rw [h.2] at ih; simp only [num] at ih ⊢; omega
  ·simp only [num, ih]
theorem trimL_trimL (xs : List Int) : trimL (trimL xs) = trimL xs := by
 induction xs with
 | nil => rfl
 | cons d ds ih =>
  simp only [trimL]
  split
  ·rfl
  ·next h => simp only [trimL, ih, h, ↓reduceIte]
theorem trimL_mem {xs : List Int} {d : Int} (h : d ∈ trimL xs) : d ∈ xs := by
 induction xs with
 | nil => exact h
 | cons x xs ih =>
  simp only [trimL] at h
  split at h
  ·simp at h
  ·rcases List.mem_cons.1 h with h | h
   ·simp [h]
   ·simp [ih h]
theorem Nrm.trimL {xs : List Int} (h : Dg xs) : Nrm (trimL xs) := ⟨fun d hd => h d (trimL_mem hd), trimL_trimL xs⟩
theorem trimL_snoc_zero (xs : List Int) : trimL (xs ++ [0]) = trimL xs := by
 induction xs with
 | nil => rfl
 | cons d ds ih => simp only [List.cons_append, trimL, ih]
theorem trimL_snoc {d : Int} (hd : d ≠ 0) (xs : List Int) : trimL (xs ++ [d]) = xs ++ [d] := by
 induction xs with
 | nil => simp [trimL, hd]
 | cons x xs ih => simp [trimL, ih]
theorem Nrm.tail {d : Int} {ds : List Int} (h : Nrm (d :: ds)) : Nrm ds := by
 refine ⟨fun x hx => h.1 x (by simp [hx]), ?_⟩
 have := h.2
 simp only [Num.trimL] at this
 split at this
 ·simp at this
 ·simpa using this
theorem Nrm.pos {xs : List Int} (h : Nrm xs) (hne : xs ≠ []) : 0 < num xs := by
 induction xs with
 | nil => exact absurd rfl hne
 | cons d ds ih =>
  have hd := h.1 d (by simp)
  by_cases hds : ds = []
  ·subst hds
   have := h.2
   simp only [Num.trimL] at this
   by_cases h0 : d = 0
   ·simp [h0] at this
   ·simp only [num]; omega
  ·have := ih h.tail hds
   simp only [num]; omega
theorem Nrm.eq {xs ys : List Int} (hx : Nrm xs) (hy : Nrm ys) (h : num xs = num ys) : xs = ys := by
 induction xs generalizing ys with
 | nil =>
  cases ys with
  | nil => rfl
  | cons y ys => have := hy.pos (by simp); rw [← h] at this; simp [num] at this
 | cons x xs ih =>
  cases ys with
  | nil => have := hx.pos (by simp); rw [h] at this; simp [num] at this
  | cons y ys =>
   have h1 := hx.1 x (by simp)
   have h2 := hy.1 y (by simp)
   simp only [num] at h
   have hxy : x = y := by omega
   have : num xs = num ys := by omega
   rw [hxy, ih hx.tail hy.tail this]
theorem Nrm.ge {xs : List Int} (h : Nrm xs) (hne : xs ≠ []) : 10000 ^ (xs.length - 1) ≤ num xs := by
 induction xs with
 | nil => exact absurd rfl hne
 | cons d ds ih =>
  have hd := h.1 d (by simp)
  by_cases hds : ds = []
  ·subst hds
   have := h.pos (by simp)
   simp only [num, List.length_cons, List.length_nil] at this ⊢
   simp at this ⊢; omega
  ·have := ih h.tail hds
   obtain ⟨x, xs, rfl⟩ := List.exists_cons_of_ne_nil hds
   simp only [List.length_cons, Nat.add_sub_cancel] at this ⊢
   rw [Int.pow_succ]
   simp only [num] at this ⊢; omega
theorem pow_mono {a b : Nat} (h : a ≤ b) : (10000 : Int) ^ a ≤ 10000 ^ b := by
 obtain ⟨k, rfl⟩ := Nat.exists_eq_add_of_le h
 induction k with
 | zero => simp
 | succ k ih =>
  have := ih (by omega)
  rw [← Nat.add_assoc, Int.pow_succ]
  have h0 : (0 : Int) < 10000 ^ (a + k) := Int.pow_pos (by decide)
  omega
theorem Nrm.len {xs : List Int} (h : Nrm xs) {k : Nat} (hk : num xs < 10000 ^ k) : xs.length ≤ k := by
 by_cases hne : xs = []
 ·subst hne; simp
 ·have h1 := h.ge hne
  refine Classical.byContradiction fun hc => ?_
  have := pow_mono (a := k) (b := xs.length - 1) (by omega)
  omega
def tot (D : Nat → Int) : Nat → Int
 | 0 => 0
 | n + 1 => tot D n + D n * 10000 ^ n
theorem tot_stay {D : Nat → Int} {n : Nat} (h : ∀ i, n ≤ i → D i = 0) {m : Nat} (hm : n ≤ m) : tot D m = tot D n := by
 obtain ⟨k, rfl⟩ := Nat.exists_eq_add_of_le hm
 induction k with
 | zero => rfl
 | succ k ih => rw [← Nat.add_assoc]; simp only [tot]; rw [ih (by omega), h (n + k) (by omega)]; omega
def dig (xs : List Int) (i : Nat) : Int := xs[i]?.getD 0
theorem tot_dig_aux (xs : List Int) (n : Nat) : tot (dig xs) n = num (xs.take n) := by
 induction n with
 | zero => simp [tot, num]
 | succ n ih =>
  simp only [tot, ih]
  rw [List.take_add_one, num_append]
  unfold dig
  by_cases h : n < xs.length
  ·rw [List.getElem?_eq_getElem h]
   simp only [Option.getD_some, Option.toList_some, num, List.length_take, Nat.min_eq_left (Nat.le_of_lt h)]
   rw [Int.mul_comm]; simp
  ·rw [List.getElem?_eq_none (by omega)]
   simp [num]
theorem tot_dig {xs : List Int} {n : Nat} (h : xs.length ≤ n) : tot (dig xs) n = num xs := by
 rw [tot_dig_aux, List.take_of_length_le h]
theorem tot_add (D E : Nat → Int) (n : Nat) : tot (fun i => D i + E i) n = tot D n + tot E n := by
 induction n with
 | zero => rfl
 | succ n ih => simp only [tot, ih, Int.add_mul]; omega
theorem tot_sub (D E : Nat → Int) (n : Nat) : tot (fun i => D i - E i) n = tot D n - tot E n := by
 induction n with
 | zero => rfl
 | succ n ih => simp only [tot, ih, Int.sub_mul]; omega
theorem tot_mul (D : Nat → Int) (k : Int) (n : Nat) : tot (fun i => D i * k) n = tot D n * k := by
 induction n with
 | zero => simp [tot]
 | succ n ih => simp only [tot, ih, Int.add_mul]; grind
theorem dig_bound {xs : List Int} (h : Dg xs) (i : Nat) : 0 ≤ dig xs i ∧ dig xs i < 10000 := by
 unfold dig
 cases hx : xs[i]? with
 | none => simp
 | some d => exact h d (List.mem_of_getElem? hx)
theorem dig_out {xs : List Int} {i : Nat} (h : xs.length ≤ i) : dig xs i = 0 := by unfold dig; rw [List.getElem?_eq_none h]; rfl
theorem num_split (xs : List Int) (i : Nat) (h : i ≤ xs.length) : num xs = num (xs.take i) + 10000 ^ i * num (xs.drop i) := by
 conv => lhs; rw [← List.take_append_drop i xs]
 rw [num_append, List.length_take, Nat.min_eq_left h]
theorem Dg.take {xs : List Int} (h : Dg xs) (i : Nat) : Dg (xs.take i) := fun d hd => h d (List.mem_of_mem_take hd)
theorem Dg.drop {xs : List Int} (h : Dg xs) (i : Nat) : Dg (xs.drop i) := fun d hd => h d (List.mem_of_mem_drop hd)
theorem num_lt_of {xs ys : List Int} (hx : Dg xs) (hy : Dg ys) {i : Nat} (h1 : i < xs.length) (h2 : i < ys.length) (hd : xs.drop (i + 1) = ys.drop (i + 1)) (hlt : xs[i] < ys[i]) : num xs < num ys := by
 rw [num_split xs i (by omega), num_split ys i (by omega), List.drop_eq_getElem_cons h1, List.drop_eq_getElem_cons h2, hd]
 simp only [num]
 have a1 := num_lt (hx.take i)
 have a2 := num_nonneg (hy.take i)
 rw [List.length_take, Nat.min_eq_left (by omega)] at a1
 have hp : (0 : Int) < 10000 ^ i := Int.pow_pos (by decide)
 obtain ⟨k, hk⟩ : ∃ k, ys[i] = xs[i] + 1 + k ∧ 0 ≤ k := ⟨ys[i] - xs[i] - 1, by omega, by omega⟩
 rw [hk.1]
 have : (10000 : Int) ^ i * (xs[i] + 1 + k + 10000 * num (ys.drop (i + 1))) = 10000 ^ i * (xs[i] + 10000 * num (ys.drop (i + 1))) + 10000 ^ i + 10000 ^ i * k := by grind
 rw [this]
 have := Int.mul_nonneg (Int.le_of_lt hp) hk.2
 omega
theorem Nrm.lt_of_len {xs ys : List Int} (hx : Nrm xs) (hy : Nrm ys) (h : xs.length < ys.length) : num xs < num ys := by
 have h1 := num_lt hx.1
 have h2 := hy.ge (by intro hc; subst hc; simp at h)
 have := pow_mono (a := xs.length) (b := ys.length - 1) (by omega)
 omega
theorem Nrm.cons {d : Int} {xs : List Int} (h : Nrm xs) (hne : xs ≠ []) (h0 : 0 ≤ d) (h1 : d < 10000) : Nrm (d :: xs) := by
 refine ⟨fun x hx => ?_, ?_⟩
 ·rcases List.mem_cons.1 hx with rfl | hx
  ·exact ⟨h0, h1⟩
  ·exact h.1 x hx
 ·simp only [Num.trimL, h.2]
  rw [if_neg fun hc => hne hc.2]
theorem num_drop_le {xs : List Int} (h : Dg xs) (i : Nat) : num (xs.drop i) ≤ num xs := by
 by_cases hi : i ≤ xs.length
 ·rw [num_split xs i hi]
  have h1 := num_nonneg (h.take i)
  have h2 := num_nonneg (h.drop i)
  have hp : (0 : Int) < 10000 ^ i := Int.pow_pos (by decide)
  have : num (xs.drop i) * 1 ≤ num (xs.drop i) * 10000 ^ i := Int.mul_le_mul_of_nonneg_left (by omega) h2
  rw [Int.mul_comm] at this
  rw [Int.mul_comm (10000 ^ i)]
  omega
 ·rw [List.drop_of_length_le (by omega)]; exact num_nonneg h
open Go.Lib
theorem snocInd {α : Type} {p : List α → Prop} (l : List α) (nil : p []) (append_singleton : ∀ l a, p l → p (l ++ [a])) : p l := by
 have h : ∀ m : List α, p m.reverse := by
  intro m
  induction m with
  | nil => exact nil
  | cons a m ih => rw [List.reverse_cons]; exact append_singleton _ _ ih
 simpa using h l.reverse
theorem head_app {α : Type} {l : List α} (m : List α) (h : l ≠ []) : (l ++ m).head? = l.head? := by
 cases l with
 | nil => exact absurd rfl h
 | cons a l => rfl
def isD (b : UInt8) : Prop := 48 ≤ b.toNat ∧ b.toNat ≤ 57
instance (b : UInt8) : Decidable (isD b) := by unfold isD; infer_instance
def dv (l : List UInt8) : Nat := l.foldl (fun a b => a * 10 + (b.toNat - 48)) 0
theorem dv_snoc (l : List UInt8) (b : UInt8) : dv (l ++ [b]) = dv l * 10 + (b.toNat - 48) := by simp [dv, List.foldl_append]
theorem dv_append (l m : List UInt8) : dv (l ++ m) = dv l * 10 ^ m.length + dv m := by
 induction m using snocInd with
 | nil => simp [dv]
 | append_singleton m b ih =>
  rw [← List.append_assoc, dv_snoc, ih, dv_snoc]
  simp only [List.length_append, List.length_cons, List.length_nil, Nat.pow_succ]
  grind
theorem snoc_cases {α : Type} (l : List α) : l = [] ∨ ∃ m b, l = m ++ [b] := by
 rcases List.eq_nil_or_concat l with h | ⟨m, b, h⟩
 ·exact .inl h
 ·exact .inr ⟨m, b, by simpa using h⟩
theorem toNat_digit {d : Nat} (h : d < 10) : (UInt8.ofNat (48 + d)).toNat = 48 + d := by
 simp only [UInt8.toNat_ofNat']; omega
theorem dec_lt {u : Nat} (h : u < 10) : decDigits u = [UInt8.ofNat (48 + u)] := by rw [decDigits, dif_pos h]
theorem dec_ge {u : Nat} (h : ¬ u < 10) : decDigits u = decDigits (u / 10) ++ [UInt8.ofNat (48 + u % 10)] := by rw [decDigits, dif_neg h]
theorem dec_ne (u : Nat) : decDigits u ≠ [] := by
 by_cases h : u < 10
 ·rw [dec_lt h]; simp
 ·rw [dec_ge h]; simp
theorem dec_isD (u : Nat) : ∀ b ∈ decDigits u, isD b := by
 induction u using Nat.strongRecOn with
 | _ u ih =>
  by_cases h : u < 10
  ·rw [dec_lt h]
   intro b hb
   simp only [List.mem_singleton] at hb
   subst hb
   unfold isD; rw [toNat_digit h]; omega
  ·rw [dec_ge h]
   intro b hb
   rcases List.mem_append.1 hb with hb | hb
   ·exact ih _ (by omega) b hb
   ·simp only [List.mem_singleton] at hb
    subst hb
    unfold isD; rw [toNat_digit (by omega)]; omega
theorem dv_dec (u : Nat) : dv (decDigits u) = u := by
 induction u using Nat.strongRecOn with
 | _ u ih =>
  by_cases h : u < 10
  ·rw [dec_lt h]
   simp only [dv, List.foldl_cons, List.foldl_nil, toNat_digit h]; omega
  ·rw [dec_ge h, dv_snoc, ih _ (by omega), toNat_digit (by omega)]; omega
theorem dv_lt {l : List UInt8} (h : ∀ b ∈ l, isD b) : dv l < 10 ^ l.length := by
 induction l using snocInd with
 | nil => simp [dv]
 | append_singleton l b ih =>
  have h1 := ih fun x hx => h x (by simp [hx])
  have h2 := h b (by simp)
  unfold isD at h2
  rw [dv_snoc]
  simp only [List.length_append, List.length_cons, List.length_nil, Nat.pow_succ]
  omega
theorem byte_ext {a b : UInt8} (h : a.toNat = b.toNat) : a = b := UInt8.toNat_inj.1 h
theorem dec_dv {l : List UInt8} (h : ∀ b ∈ l, isD b) (hne : l ≠ []) (hh : l.length = 1 ∨ l.head? ≠ some 48) : decDigits (dv l) = l := by
 induction l using snocInd with
 | nil => exact absurd rfl hne
 | append_singleton l b ih =>
  have h2 := h b (by simp)
  unfold isD at h2
  have hb : UInt8.ofNat (48 + (b.toNat - 48)) = b := byte_ext (by rw [toNat_digit (by omega)]; omega)
  rw [dv_snoc]
  by_cases hl : l = []
  ·subst hl
   rw [show dv [] = 0 from rfl, dec_lt (by omega)]
   simp only [Nat.zero_mul, Nat.zero_add, hb, List.nil_append]
  ·have hhl : l.head? ≠ some 48 := by
    rcases hh with hh | hh
    ·exact absurd (by simpa using hh) hl
    ·rw [head_app _ hl] at hh; exact hh
   have ih' := ih (fun x hx => h x (by simp [hx])) hl (.inr hhl)
   have hpos : 0 < dv l := by
    refine Nat.pos_of_ne_zero fun hc => ?_
    rw [hc, dec_lt (by decide)] at ih'
    rw [← ih'] at hhl
    exact hhl rfl
   rw [dec_ge (by omega), show (dv l * 10 + (b.toNat - 48)) / 10 = dv l from by omega, show (dv l * 10 + (b.toNat - 48)) % 10 = b.toNat - 48 from by omega, ih', hb]
theorem dec_head {u : Nat} (h : u ≠ 0) : (decDigits u).head? ≠ some 48 := by
 induction u using Nat.strongRecOn with
 | _ u ih =>
  by_cases h1 : u < 10
  ·rw [dec_lt h1]
   intro hc
   simp only [List.head?_cons, Option.some.injEq] at hc
   have := congrArg UInt8.toNat hc
   rw [toNat_digit h1] at this
   have h3 : (48 : UInt8).toNat = 48 := rfl
   omega
  ·rw [dec_ge h1, head_app _ (dec_ne _)]
   exact ih _ (by omega) (by omega)
theorem dec_len {u k : Nat} (hk : 1 ≤ k) : (decDigits u).length ≤ k ↔ u < 10 ^ k := by
 constructor
 ·intro h
  have h1 := dv_lt (dec_isD u)
  rw [dv_dec] at h1
  exact Nat.lt_of_lt_of_le h1 (Nat.pow_le_pow_right (by decide) h)
 ·intro h
  induction k generalizing u with
  | zero => omega
  | succ k ih =>
   by_cases h1 : u < 10
   ·rw [dec_lt h1]; simp
   ·rw [dec_ge h1]
    have hk : 1 ≤ k := by
     refine Nat.pos_of_ne_zero fun hc => ?_
     subst hc; simp at h; omega
    have := ih (u := u / 10) hk (by rw [Nat.pow_succ] at h; omega)
    simp; omega
theorem dec_pad {a d : Nat} (ha : 0 < a) {k : Nat} (hd : d < 10 ^ k) (hk : 1 ≤ k) : decDigits (a * 10 ^ k + d) = decDigits a ++ (List.replicate (k - (decDigits d).length) 48 ++ decDigits d) := by
 have hl := (dec_len hk).2 hd
 rw [← dec_dv (l := decDigits a ++ (List.replicate (k - (decDigits d).length) 48 ++ decDigits d))]
 ·congr 1
  have h0 : ∀ n, dv (List.replicate n 48) = 0 := by
   intro n
   induction n with
   | zero => rfl
   | succ n ih => rw [List.replicate_succ', dv_snoc, ih]; rfl
  rw [dv_append, dv_dec, dv_append, h0, dv_dec]
  simp only [List.length_append, List.length_replicate]
  rw [show k - (decDigits d).length + (decDigits d).length = k from by omega]
  omega
 ·intro b hb
  rcases List.mem_append.1 hb with hb | hb
  ·exact dec_isD a b hb
  ·rcases List.mem_append.1 hb with hb | hb
   ·rw [List.mem_replicate] at hb
    rw [hb.2]; decide
   ·exact dec_isD d b hb
 ·simp [dec_ne]
 ·right
  rw [head_app _ (dec_ne _)]
  exact dec_head (by omega)
@[irreducible] def MaxI : Nat := 10 ^ 200
def validB (s : List UInt8) : Bool :=
 decide ((trimPrefix s [45] ≠ [] ∧ (trimPrefix s [45]).length ≤ 200 ∧ ∀ b ∈ trimPrefix s [45], isD b) ∧ (s = [48] ∨ (trimPrefix s [45]).head? ≠ some 48))
theorem trim_neg (l : List UInt8) : trimPrefix (45 :: l) [45] = l := by simp [trimPrefix, hasPrefix]
theorem trim_pos {l : List UInt8} (h : l.head? ≠ some 45) : trimPrefix l [45] = l := by
 cases l with
 | nil => simp [trimPrefix, hasPrefix]
 | cons a l =>
  have : a ≠ 45 := by simpa using h
  simp [trimPrefix, hasPrefix, this.symm]
theorem dec_head45 (u : Nat) : (decDigits u).head? ≠ some 45 := by
 intro hc
 have := dec_isD u 45 (List.mem_of_mem_head? hc)
 revert this; decide
theorem trim_itoa (z : Int) : trimPrefix (itoa z) [45] = decDigits z.natAbs := by
 unfold itoa
 split
 ·exact trim_neg _
 ·rw [trim_pos (dec_head45 _)]
  congr 1; omega
theorem valid_itoa (z : Int) : validB (itoa z) = decide (z.natAbs < MaxI) := by
 unfold validB
 rw [trim_itoa]
 rw [decide_eq_decide]
 have h1 := dec_ne z.natAbs
 have h2 := dec_isD z.natAbs
 have h3 : (decDigits z.natAbs).length ≤ 200 ↔ z.natAbs < MaxI := by unfold MaxI; exact dec_len (by decide)
 have h4 : itoa z = [48] ∨ (decDigits z.natAbs).head? ≠ some 48 := by
  by_cases hz : z = 0
  ·left; subst hz; unfold itoa; rw [if_neg (by decide)]; exact dec_lt (by decide)
  ·right; exact dec_head (by omega)
 constructor
 ·exact fun h => h3.1 h.1.2.1
 ·exact fun h => ⟨⟨h1, h3.2 h, h2⟩, h4⟩
theorem valid_ex {s : List UInt8} (h : validB s = true) : ∃ z : Int, z.natAbs < MaxI ∧ s = itoa z := by
 have h' := h
 unfold validB at h
 obtain ⟨⟨h1, h2, h3⟩, h4⟩ := of_decide_eq_true h
 by_cases hs : s.head? = some 45
 ·obtain ⟨l, rfl⟩ : ∃ l, s = 45 :: l := by
   cases s with
   | nil => simp at hs
   | cons a l => simp at hs; exact ⟨l, by rw [hs]⟩
  rw [trim_neg] at h1 h2 h3 h4
  have h5 : l.head? ≠ some 48 := by
   rcases h4 with h4 | h4
   ·simp at h4
   ·exact h4
  have h6 := dec_dv h3 h1 (.inr h5)
  have h7 : 0 < dv l := by
   refine Nat.pos_of_ne_zero fun hc => ?_
   rw [hc, dec_lt (by decide)] at h6
   rw [← h6] at h5; exact h5 rfl
  have h8 : 45 :: l = itoa (-(dv l : Int)) := by
   unfold itoa
   rw [if_pos (by omega), show (-(dv l : Int)).natAbs = dv l from by omega, h6]
  refine ⟨_, ?_, h8⟩
  rw [h8, valid_itoa] at h'
  exact of_decide_eq_true h'
 ·rw [trim_pos hs] at h1 h2 h3 h4
  have h6 := dec_dv h3 h1 (by
   rcases h4 with h4 | h4
   ·left; rw [h4]; rfl
   ·exact .inr h4)
  have h8 : s = itoa (dv s : Int) := by
   unfold itoa
   rw [if_neg (by omega), Int.toNat_natCast, h6]
  refine ⟨_, ?_, h8⟩
  rw [h8, valid_itoa] at h'
  exact of_decide_eq_true h'
theorem itoa_inj {x y : Int} (h : itoa x = itoa y) : x = y := by
 have h1 := congrArg (fun l => dv (trimPrefix l [45])) h
 simp only [trim_itoa, dv_dec] at h1
 have h2 := congrArg List.head? h
 by_cases hx : x < 0
 ·by_cases hy : y < 0
  ·omega
  ·unfold itoa at h2
   rw [if_pos hx, if_neg hy] at h2
   exact absurd h2.symm (dec_head45 _)
 ·by_cases hy : y < 0
  ·unfold itoa at h2
   rw [if_neg hx, if_pos hy] at h2
   exact absurd h2 (dec_head45 _)
  ·omega
theorem decFrom_dv (l : List UInt8) (h : ∀ b ∈ l, isD b) (acc : Nat) : decFrom acc l = some (acc * 10 ^ l.length + dv l) := by
 induction l generalizing acc with
 | nil => simp [decFrom, dv]
 | cons b r ih =>
  have hb := h b (by simp)
  have hdv : digitVal b = some (b.toNat - 48) := by unfold digitVal; unfold isD at hb; rw [if_pos hb]
  rw [decFrom, hdv]
  simp only
  rw [ih (fun x hx => h x (by simp [hx]))]
  have : dv (b :: r) = dv [b] * 10 ^ r.length + dv r := dv_append [b] r
  rw [this]
  have h1 : dv [b] = b.toNat - 48 := by simp [dv]
  rw [h1]
  simp only [List.length_cons, Nat.pow_succ]
  congr 1
  grind
theorem atoi_dv {l : List UInt8} (h : ∀ b ∈ l, isD b) (hne : l ≠ []) : atoi l = some (dv l : Int) := by
 cases l with
 | nil => exact absurd rfl hne
 | cons b r =>
  have hb := h b (by simp)
  unfold isD at hb
  have h1 : (b == 45) = false := by
   rw [beq_eq_false_iff_ne]; rintro rfl; revert hb; decide
  have h2 : (b == 43) = false := by
   rw [beq_eq_false_iff_ne]; rintro rfl; revert hb; decide
  unfold atoi
  simp only [h1, h2]
  unfold decNat
  have := decFrom_dv (b :: r) h 0
  simp [this]
theorem dv_seg {D : List UInt8} {k f : Nat} (hk : k ≤ D.length) (hf : f ≤ k) : dv (D.drop f) = dv ((D.take k).drop f) * 10 ^ (D.length - k) + dv (D.drop k) := by
 have : D.drop f = (D.take k).drop f ++ D.drop k := by
  have h1 : D = D.take k ++ D.drop k := (List.take_append_drop k D).symm
  conv => lhs; rw [h1]
  rw [List.drop_append_of_le_length (by simp; omega)]
 rw [this, dv_append]
 simp
theorem num_snoc (xs : List Int) (n : Int) : num (xs ++ [n]) = num xs + 10000 ^ xs.length * n := by
 rw [num_append]; simp [num]
structure Fr (p q : Int) : Prop where
 hp : p.natAbs < MaxI
 q0 : 0 < q
 hq : q.natAbs < MaxI
 hg : Int.gcd p q = 1
def sgnTo (d n : Int) : Int := if d < 0 then -n else n
def loN (n d : Int) : Int := sgnTo d n / (Int.gcd n d : Int)
def loD (n d : Int) : Int := sgnTo d d / (Int.gcd n d : Int)
theorem sgnTo_abs (d n : Int) : (sgnTo d n).natAbs = n.natAbs := by unfold sgnTo; split <;> omega
theorem sgnTo_pos {d : Int} (h : d ≠ 0) : 0 < sgnTo d d := by unfold sgnTo; split <;> omega
theorem sgnTo_gcd (n d : Int) : Int.gcd (sgnTo d n) (sgnTo d d) = Int.gcd n d := by
 unfold sgnTo; split
 ·rw [Int.gcd_neg, Int.neg_gcd]
 ·rfl
theorem gcd_dvdN (n d : Int) : (Int.gcd n d : Int) ∣ sgnTo d n := by
 have := Int.gcd_dvd_left (sgnTo d n) (sgnTo d d); rwa [sgnTo_gcd] at this
theorem gcd_dvdD (n d : Int) : (Int.gcd n d : Int) ∣ sgnTo d d := by
 have := Int.gcd_dvd_right (sgnTo d n) (sgnTo d d); rwa [sgnTo_gcd] at this
theorem gcd_pos' {n d : Int} (hd : d ≠ 0) : (0 : Int) < (Int.gcd n d : Int) := by
 have := Int.gcd_pos_iff.2 (.inr hd : n ≠ 0 ∨ d ≠ 0); omega
theorem loN_mul (n d : Int) : loN n d * (Int.gcd n d : Int) = sgnTo d n := Int.ediv_mul_cancel (gcd_dvdN n d)
theorem loD_mul (n d : Int) : loD n d * (Int.gcd n d : Int) = sgnTo d d := Int.ediv_mul_cancel (gcd_dvdD n d)
theorem lo_cross {n d : Int} (hd : d ≠ 0) : loN n d * d = n * loD n d := by
 have hg := gcd_pos' (n := n) hd
 have e1 := loN_mul n d
 have e2 := loD_mul n d
 have key : sgnTo d n * d = n * sgnTo d d := by unfold sgnTo; split <;> simp [Int.neg_mul, Int.mul_neg]
 rw [← e1, ← e2] at key
 refine Int.eq_of_mul_eq_mul_right (a := (Int.gcd n d : Int)) (by omega) ?_
 rw [Int.mul_right_comm, key, Int.mul_assoc]
theorem loD_pos {n d : Int} (hd : d ≠ 0) : 0 < loD n d := by
 have hg := gcd_pos' (n := n) hd
 have e2 := loD_mul n d
 have h := sgnTo_pos hd
 rw [← e2] at h
 exact Int.pos_of_mul_pos_left h hg
theorem abs_le_of_mul {a g s : Int} (hg : 0 < g) (h : a * g = s) : a.natAbs ≤ s.natAbs := by
 rw [← h, Int.natAbs_mul]
 exact Nat.le_mul_of_pos_right _ (by omega)
theorem lo_gcd {n d : Int} (hd : d ≠ 0) : Int.gcd (loN n d) (loD n d) = 1 := by
 have hg := gcd_pos' (n := n) hd
 have h := sgnTo_gcd n d
 rw [← loN_mul n d, ← loD_mul n d, Int.gcd_mul_right] at h
 simp only [Int.natAbs_natCast] at h
 exact Nat.eq_of_mul_eq_mul_right (by omega : 0 < Int.gcd n d) (by rw [h]; simp)
theorem lo_fr {n d : Int} (hn : n.natAbs < MaxI) (hd : d.natAbs < MaxI) (h0 : d ≠ 0) : Fr (loN n d) (loD n d) := by
 have hg := gcd_pos' (n := n) h0
 have h1 := abs_le_of_mul hg (loN_mul n d)
 have h2 := abs_le_of_mul hg (loD_mul n d)
 rw [sgnTo_abs] at h1 h2
 exact ⟨by omega, loD_pos h0, by omega, lo_gcd h0⟩
theorem dvd_of_cross {p q p' q' : Int} (g : Int.gcd p q = 1) (h : p * q' = p' * q) : q ∣ q' := by
 have h1 : q.natAbs ∣ p.natAbs * q'.natAbs := by
  rw [← Int.natAbs_mul, h, Int.natAbs_mul]; exact Nat.dvd_mul_left _ _
 have h2 : Nat.Coprime q.natAbs p.natAbs := by
  show Nat.gcd _ _ = 1
  rw [Nat.gcd_comm]; exact g
 exact Int.natAbs_dvd_natAbs.1 (h2.dvd_of_dvd_mul_left h1)
theorem fr_uniq {p q p' q' : Int} (hq : 0 < q) (hq' : 0 < q') (g : Int.gcd p q = 1) (g' : Int.gcd p' q' = 1) (h : p * q' = p' * q) : p = p' ∧ q = q' := by
 have e : q = q' := Int.dvd_antisymm (by omega) (by omega) (dvd_of_cross g h) (dvd_of_cross g' h.symm)
 subst e
 exact ⟨Int.eq_of_mul_eq_mul_right (by omega) h, rfl⟩
theorem lo_of_fr {p q : Int} (hq : 0 < q) (g : Int.gcd p q = 1) : loN p q = p ∧ loD p q = q := by
 unfold loN loD sgnTo
 rw [if_neg (by omega), if_neg (by omega), g]
 simp
theorem lo_eq {n d n' d' : Int} (hd : d ≠ 0) (hd' : d' ≠ 0) (h : n * d' = n' * d) : loN n d = loN n' d' ∧ loD n d = loD n' d' := by
 refine fr_uniq (loD_pos hd) (loD_pos hd') (lo_gcd hd) (lo_gcd hd') ?_
 have e1 := lo_cross (n := n) hd
 have e2 := lo_cross (n := n') hd'
 have : (loN n d * loD n' d') * (d * d') = (loN n' d' * loD n d) * (d * d') := by
  calc (loN n d * loD n' d') * (d * d') = (loN n d * d) * (loD n' d' * d') := by grind
   _ = (n * loD n d) * (loD n' d' * d') := by rw [e1]
   _ = (n * d') * loD n d * loD n' d' := by grind
   _ = (n' * d) * loD n d * loD n' d' := by rw [h]
   _ = (n' * loD n' d') * (loD n d * d) := by grind
   _ = (loN n' d' * d') * (loD n d * d) := by rw [e2]
   _ = _ := by grind
 exact Int.eq_of_mul_eq_mul_right (Int.mul_ne_zero hd hd') this
theorem Fr.lo {p q n d : Int} (a : Fr p q) (hd : d ≠ 0) (h : p * d = n * q) : loN n d = p ∧ loD n d = q := by
 have := lo_eq (n := n) (d := d) (n' := p) (d' := q) hd (by have := a.q0; omega) h.symm
 obtain ⟨h1, h2⟩ := lo_of_fr a.q0 a.hg
 rw [h1, h2] at this
 exact this
theorem maxI1 : 1 < MaxI := by unfold MaxI; decide
theorem Fr.neg {p q : Int} (h : Fr p q) : Fr (-p) q := ⟨by rw [Int.natAbs_neg]; exact h.hp, h.q0, h.hq, by rw [Int.neg_gcd]; exact h.hg⟩
theorem den_ne (x : Rat) : (x.den : Rat) ≠ 0 := by
 have := x.den_nz
 exact_mod_cast this
theorem num_den (x : Rat) : (x.num : Rat) / (x.den : Rat) = x := by
 have h := Rat.num_divInt_den x
 rw [Rat.divInt_eq_div] at h
 exact_mod_cast h
theorem rat_gcd (x : Rat) : Int.gcd x.num (x.den : Int) = 1 := x.reduced
theorem int_ne {d : Int} (h : d ≠ 0) : (d : Rat) ≠ 0 := by exact_mod_cast h
theorem rat_cross {a b c d : Int} (hb : b ≠ 0) (hd : d ≠ 0) (h : (a : Rat) / b = (c : Rat) / d) : a * d = c * b := by
 have h1 := int_ne hb
 have h2 := int_ne hd
 have : (a : Rat) * d = c * b := by
  rw [Rat.div_def, Rat.div_def] at h
  grind
 exact_mod_cast this
theorem den_pos (x : Rat) : (0 : Int) < (x.den : Int) := by have := x.den_nz; omega
theorem num_den' (x : Rat) : (x.num : Rat) / ((x.den : Int) : Rat) = x := by have := num_den x; exact_mod_cast this
theorem lo_rat {n d : Int} (hd : d ≠ 0) : ((n : Rat) / d).num = loN n d ∧ ((((n : Rat) / d).den : Nat) : Int) = loD n d := by
 have hq := den_pos ((n : Rat) / d)
 refine fr_uniq hq (loD_pos hd) (rat_gcd _) (lo_gcd hd) ?_
 have h1 : (((n : Rat) / d).num : Rat) / ((((n : Rat) / d).den : Int) : Rat) = (n : Rat) / d := num_den' _
 have h2 := rat_cross (by omega) hd h1
 have h3 := lo_cross (n := n) hd
 have h4 := loD_pos (n := n) hd
 refine Int.eq_of_mul_eq_mul_right (a := d) hd ?_
 calc ((n : Rat) / d).num * loD n d * d = (((n : Rat) / d).num * d) * loD n d := by grind
  _ = (n * (((n : Rat) / d).den : Int)) * loD n d := by rw [h2]
  _ = (n * loD n d) * (((n : Rat) / d).den : Int) := by grind
  _ = _ := by rw [← h3]; grind
theorem Fr.rat {p q : Int} (h : Fr p q) : ((p : Rat) / q).num = p ∧ ((((p : Rat) / q).den : Nat) : Int) = q := by
 have h0 := h.q0
 obtain ⟨h1, h2⟩ := lo_rat (n := p) (d := q) (by omega)
 obtain ⟨h3, h4⟩ := lo_of_fr h.q0 h.hg
 rw [h3] at h1; rw [h4] at h2
 exact ⟨h1, h2⟩
structure RB (x : Rat) : Prop where
 n : x.num.natAbs < MaxI
 d : ((x.den : Nat) : Int).natAbs < MaxI
theorem RB.fr {x : Rat} (h : RB x) : Fr x.num x.den := ⟨h.n, den_pos x, h.d, rat_gcd x⟩
theorem Fr.rb {p q : Int} (h : Fr p q) : RB ((p : Rat) / q) := by
 obtain ⟨h1, h2⟩ := h.rat
 exact ⟨by rw [h1]; exact h.hp, by rw [h2]; exact h.hq⟩
theorem rb_div {n d : Int} (hn : n.natAbs < MaxI) (hd : d.natAbs < MaxI) (h0 : d ≠ 0) : RB ((n : Rat) / d) := by
 obtain ⟨h1, h2⟩ := lo_rat (n := n) h0
 have h := lo_fr hn hd h0
 exact ⟨by rw [h1]; exact h.hp, by rw [h2]; exact h.hq⟩
theorem rat_ext {x y : Rat} (h1 : x.num = y.num) (h2 : x.den = y.den) : x = y := by
 rw [← num_den x, ← num_den y, h1, h2]
theorem q_add (x y : Rat) : (((x.num * (y.den : Int) + y.num * (x.den : Int)) : Int) : Rat) / (((x.den : Int) * (y.den : Int) : Int) : Rat) = x + y := by
 have h1 := den_ne x
 have h2 := den_ne y
 have e1 := num_den x
 have e2 := num_den y
 push_cast
 generalize (x.num : Rat) = a at *
 generalize (y.num : Rat) = b at *
 generalize (x.den : Rat) = c at *
 generalize (y.den : Rat) = d at *
 subst e1; subst e2
 grind
theorem q_sub (x y : Rat) : (((x.num * (y.den : Int) - y.num * (x.den : Int)) : Int) : Rat) / (((x.den : Int) * (y.den : Int) : Int) : Rat) = x - y := by
 have h1 := den_ne x
 have h2 := den_ne y
 have e1 := num_den x
 have e2 := num_den y
 push_cast
 generalize (x.num : Rat) = a at *
 generalize (y.num : Rat) = b at *
 generalize (x.den : Rat) = c at *
 generalize (y.den : Rat) = d at *
 subst e1; subst e2
 grind
theorem q_mul (x y : Rat) : (((x.num * y.num) : Int) : Rat) / (((x.den : Int) * (y.den : Int) : Int) : Rat) = x * y := by
 have h1 := den_ne x
 have h2 := den_ne y
 have e1 := num_den x
 have e2 := num_den y
 push_cast
 generalize (x.num : Rat) = a at *
 generalize (y.num : Rat) = b at *
 generalize (x.den : Rat) = c at *
 generalize (y.den : Rat) = d at *
 subst e1; subst e2
 grind
theorem num_le {n d : Int} (hd : d ≠ 0) : ((n : Rat) / d).num.natAbs ≤ n.natAbs := by
 rw [(lo_rat (n := n) hd).1, ← sgnTo_abs d n]
 exact abs_le_of_mul (gcd_pos' (n := n) hd) (loN_mul n d)
theorem den_le {n d : Int} (hd : d ≠ 0) : ((((n : Rat) / d).den : Nat) : Int).natAbs ≤ d.natAbs := by
 rw [(lo_rat (n := n) hd).2, ← sgnTo_abs d d]
 exact abs_le_of_mul (gcd_pos' (n := n) hd) (loD_mul n d)
theorem dd_ne (x y : Rat) : (x.den : Int) * (y.den : Int) ≠ 0 := Int.mul_ne_zero (Int.ne_of_gt (den_pos x)) (Int.ne_of_gt (den_pos y))
theorem den_int (z : Int) : ((z : Int) : Rat).den = 1 := rfl
theorem RB.int {z : Int} (h : z.natAbs < MaxI) : RB (z : Rat) := ⟨h, by rw [den_int]; exact maxI1⟩
end Go.Num
namespace Go.Num
abbrev El := Rat × Rat
def kept : Nat → List El → List El
 | _, [] => []
 | k, e :: l => if k % 2 = 1 then e :: kept (k / 2) l else kept (k / 2) l
section
variable {D E M N : Nat} {x y : Rat}
end
end Go.Num
set_option maxRecDepth 100000
namespace Go.Shr
def fac : Nat → Nat
 | 0 => 1
 | n + 1 => (n + 1) * fac n
theorem fac_pos (n : Nat) : 0 < fac n := by
 induction n with
 | zero => decide
 | succ n ih => exact Nat.mul_pos (by omega) ih
def ones : Nat → Nat → Nat
 | 0, _ => 0
 | f + 1, s => s % 2 + ones f (s / 2)
def g (v : List Int) (s : Nat) : Int := v.getD s 0
abbrev LF := List (Int × Nat)
def ev (l : LF) (v : List Int) : Int := (l.map fun t => t.1 * g v t.2).sum
def cof (l : LF) (k : Nat) : Int := (l.map fun t => if t.2 = k then t.1 else 0).sum
theorem ev_nil (v : List Int) : ev [] v = 0 := rfl
theorem ev_cons (t : Int × Nat) (l : LF) (v : List Int) : ev (t :: l) v = t.1 * g v t.2 + ev l v := by simp [ev]
theorem ev_append (a b : LF) (v : List Int) : ev (a ++ b) v = ev a v + ev b v := by
 induction a with
 | nil => simp [ev]
 | cons t a ih => rw [List.cons_append, ev_cons, ev_cons, ih]; omega
theorem cof_nil (k : Nat) : cof [] k = 0 := rfl
theorem cof_cons (t : Int × Nat) (l : LF) (k : Nat) : cof (t :: l) k = (if t.2 = k then t.1 else 0) + cof l k := by simp [cof]
def sm (m : Nat) (f : Nat → Int) : Int := ((List.range m).map f).sum
theorem sm_succ (m : Nat) (f : Nat → Int) : sm (m + 1) f = sm m f + f m := by simp [sm, List.range_succ]
theorem sm_add (m : Nat) (f h : Nat → Int) : sm m (fun k => f k + h k) = sm m f + sm m h := by
 induction m with
 | zero => rfl
 | succ m ih => rw [sm_succ, sm_succ, sm_succ, ih]; omega
theorem sm_congr (m : Nat) (f h : Nat → Int) (e : ∀ k, k < m → f k = h k) : sm m f = sm m h := by
 induction m with
 | zero => rfl
 | succ m ih => rw [sm_succ, sm_succ, ih fun k hk => e k (by omega), e m (by omega)]
theorem sm_one (m j : Nat) (c : Int) (f : Nat → Int) (hj : j < m) : sm m (fun k => (if j = k then c else 0) * f k) = c * f j := by
 induction m with
 | zero => omega
 | succ m ih =>
  rw [sm_succ]
  by_cases h : j = m
  ·subst h
   have : sm j (fun k => (if j = k then c else 0) * f k) = sm j fun _ => 0 := sm_congr _ _ _ fun k hk => by rw [if_neg (by omega), Int.zero_mul]
   rw [this, if_pos rfl]
   have z : ∀ j, sm j (fun _ => 0) = 0 := fun j => by
    induction j with
    | zero => rfl
    | succ j ih => rw [sm_succ, ih]; rfl
   rw [z]; omega
  ·rw [ih (by omega), if_neg h, Int.zero_mul]; omega
theorem ev_cof (l : LF) (v : List Int) (m : Nat) (h : ∀ t ∈ l, t.2 < m) : ev l v = sm m fun k => cof l k * g v k := by
 induction l with
 | nil =>
  have z : ∀ j, sm j (fun k => cof [] k * g v k) = 0 := fun j => by
   induction j with
   | zero => rfl
   | succ j ih => rw [sm_succ, ih, cof_nil, Int.zero_mul]; rfl
  rw [z]; rfl
 | cons t l ih =>
  rw [ev_cons, ih fun t ht => h t (List.mem_cons_of_mem _ ht)]
  have e : (fun k => cof (t :: l) k * g v k) = fun k => (if t.2 = k then t.1 else 0) * g v k + cof l k * g v k := by
   funext k; rw [cof_cons, Int.add_mul]
  rw [e, sm_add, sm_one m t.2 t.1 (g v) (h t List.mem_cons_self)]
def lfEq (m : Nat) (a b : LF) : Bool := a.all (fun t => decide (t.2 < m)) && b.all (fun t => decide (t.2 < m)) && (List.range m).all fun k => cof a k == cof b k
theorem lfEq_ev {m : Nat} {a b : LF} (h : lfEq m a b = true) (v : List Int) : ev a v = ev b v := by
 simp only [lfEq, Bool.and_eq_true, List.all_eq_true, decide_eq_true_eq, beq_iff_eq, List.mem_range] at h
 rw [ev_cof a v m h.1.1, ev_cof b v m h.1.2]
 exact sm_congr _ _ _ fun k hk => by rw [h.2 k hk]
def tms (n : Nat) (v : List Int) (i : Nat) : List (Int × Int) :=
 (List.range (2 ^ n)).filterMap fun s => if s / 2 ^ i % 2 = 1 then none else some (g v (s + 2 ^ i) - g v s, (fac (ones n s) * fac (n - ones n s - 1) : Nat))
def dotT (l : List (Int × Int)) : Int := (l.map fun t => t.1 * t.2).sum
theorem dotT_cons (t : Int × Int) (l : List (Int × Int)) : dotT (t :: l) = t.1 * t.2 + dotT l := by simp [dotT]
theorem dotT_append (a b : List (Int × Int)) : dotT (a ++ b) = dotT a + dotT b := by
 induction a with
 | nil => simp [dotT]
 | cons t a ih => rw [List.cons_append, dotT_cons, dotT_cons, ih]; omega
def lfS (n i : Nat) : LF :=
 (List.range (2 ^ n)).flatMap fun s => if s / 2 ^ i % 2 = 1 then [] else [(((fac (ones n s) * fac (n - ones n s - 1) : Nat) : Int), s + 2 ^ i), (-((fac (ones n s) * fac (n - ones n s - 1) : Nat) : Int), s)]
def numS (n : Nat) (v : List Int) (i : Nat) : Int := dotT (tms n v i)
theorem tms_lf (n i : Nat) (v : List Int) (L : List Nat) :
 dotT (L.filterMap fun s => if s / 2 ^ i % 2 = 1 then none else some (g v (s + 2 ^ i) - g v s, ((fac (ones n s) * fac (n - ones n s - 1) : Nat) : Int))) =
 ev (L.flatMap fun s => if s / 2 ^ i % 2 = 1 then [] else [(((fac (ones n s) * fac (n - ones n s - 1) : Nat) : Int), s + 2 ^ i), (-((fac (ones n s) * fac (n - ones n s - 1) : Nat) : Int), s)]) v := by
 induction L with
 | nil => rfl
 | cons s L ih =>
  rw [List.filterMap_cons, List.flatMap_cons, ev_append]
  split
  ·next h =>
   split at h
   ·next h1 => rw [if_pos h1, ev_nil, ih]; omega
   ·cases h
  ·next b h =>
   split at h
   ·cases h
   ·next h1 =>
    rw [if_neg h1, ← Option.some.inj h, dotT_cons, ih, ev_cons, ev_cons, ev_nil]
    simp only [Int.sub_mul, Int.neg_mul]
    rw [Int.mul_comm (g v (s + 2 ^ i)), Int.mul_comm (g v s)]
    omega
theorem numS_lf (n i : Nat) (v : List Int) : numS n v i = ev (lfS n i) v := tms_lf n i v _
def shr (n : Nat) (v : List Int) (i : Nat) : Rat := (numS n v i : Rat) / (fac n : Int)
def shrs (n : Nat) (v : List Int) : List Rat := (List.range n).map (shr n v)
def Alk (n : Nat) (v : List Int) (i j : Nat) : Prop := ∀ s, s < 2 ^ n → s / 2 ^ i % 2 = 0 → s / 2 ^ j % 2 = 0 → g v (s + 2 ^ i) = g v (s + 2 ^ j)
end Go.Shr
set_option maxRecDepth 100000
namespace Go.Shr
def tau (n b s : Nat) : Nat := (List.range n).foldl (fun t i => if s / 2 ^ i % 2 = 1 then t ||| 1 <<< ((i + b) % n) else t) 0
def riseAt (l : List Nat) : Nat → Option Nat
 | 0 => none
 | i + 1 => if l.getD (i + 1) 0 < l.getD i 0 then riseAt l i else some i
def lastAt (l : List Nat) (x : Nat) : Nat → Nat
 | 0 => 0
 | j + 1 => if l.getD (j + 1) 0 < x then lastAt l x j else j + 1
def swapL (l : List Nat) (a b : Nat) : List Nat := (l.set a (l.getD b 0)).set b (l.getD a 0)
def revFrom : Nat → List Nat → Nat → Nat → List Nat
 | 0, l, _, _ => l
 | f + 1, l, a, b => if a < b then revFrom f (swapL l a b) (a + 1) (b - 1) else l
def nextO (l : List Nat) : Option (List Nat) :=
 match riseAt l (l.length - 1) with
 | none => none
 | some i =>
  let j := lastAt l (l.getD i 0) (l.length - 1)
  some (revFrom l.length (swapL l i j) (i + 1) (l.length - 1))
def ords : Nat → List Nat → List (List Nat)
 | 0, _ => []
 | f + 1, l => l :: match nextO l with
  | none => []
  | some l' => ords f l'
def ordF (i : Nat) : Nat → List Nat → LF
 | _, [] => []
 | s, c :: l => (if c = i then [((1 : Int), s ||| 1 <<< c), (-1, s)] else []) ++ ordF i (s ||| 1 <<< c) l
theorem ords_all : ((List.range 6).all fun n => (ords 130 (List.range n)).length == fac n && (List.range n).all fun i => lfEq (2 ^ n) (lfS n i) ((ords 130 (List.range n)).flatMap (ordF i 0))) = true := by decide +kernel
end Go.Shr
set_option maxRecDepth 100000
namespace Go.Shr
def many (sizes : List Nat) : Nat × Nat := sizes.foldl (fun p k => (p.1 * (k + 1), p.2 + k)) (1, 0)
def cnt : List Nat → Nat → List Nat
 | [], _ => []
 | n :: l, ix => ix % (n + 1) :: cnt l (ix / (n + 1))
def cho (n k : Nat) : Nat := fac n / fac k / fac (n - k)
def wayM (c : Nat) : Nat → List Nat → List Nat → Nat
 | d, n :: l, k :: m => (if d = c then cho (n - 1) k else cho n k) * wayM c (d + 1) l m
 | _, _, _ => 1
def lfM (sizes : List Nat) (c : Nat) : LF :=
 (List.range (many sizes).1).flatMap fun ix =>
  if (cnt sizes ix).getD c 0 = sizes.getD c 0 then [] else
   [(((wayM c 0 sizes (cnt sizes ix) * fac (cnt sizes ix).sum * fac ((many sizes).2 - (cnt sizes ix).sum - 1) : Nat) : Int), ix + (many (sizes.take c)).1), (-((wayM c 0 sizes (cnt sizes ix) * fac (cnt sizes ix).sum * fac ((many sizes).2 - (cnt sizes ix).sum - 1) : Nat) : Int), ix)]
def clsR (r : List Nat) : List (List Nat) := ((List.range r.length).filter fun j => r.getD j 0 == j).map fun j => (List.range r.length).filter fun i => r.getD i 0 == j
def dv : List Int → Nat → List Int → Int
 | [], _, _ => 0
 | x :: l, k, v => x * g v k + dv l (k + 1) v
def maskR (cl : List (List Nat)) (ks : List Nat) : Nat := ((cl.zip ks).map fun t => ((t.1.take t.2).map (2 ^ ·)).sum).sum
def redIx (cl : List (List Nat)) (ix : Nat) : Nat := maskR cl (cnt (cl.map List.length) ix)
end Go.Shr
set_option maxRecDepth 100000
namespace Go.Shr
def redV (cl : List (List Nat)) (v : List Int) : List Int := (List.range (many (cl.map List.length)).1).map fun ix => g v (redIx cl ix)
def numM (sizes : List Nat) (v : List Int) (c : Nat) : Int := ev (lfM sizes c) v
end Go.Shr
set_option maxRecDepth 100000
namespace Go.Shr
def alB (n : Nat) (v : List Int) (i j : Nat) : Bool := (List.range (2 ^ n)).all fun s => !(s / 2 ^ i % 2 == 0 && s / 2 ^ j % 2 == 0) || g v (s + 2 ^ i) == g v (s + 2 ^ j)
theorem alB_iff {n : Nat} {v : List Int} {i j : Nat} : alB n v i j = true ↔ Alk n v i j := by
 constructor
 ·intro h s hs h0 h1
  have h := List.all_eq_true.1 h s (List.mem_range.2 hs)
  simp [h0, h1] at h
  exact h
 ·intro h
  refine List.all_eq_true.2 fun s hs => ?_
  by_cases h0 : s / 2 ^ i % 2 = 0 ∧ s / 2 ^ j % 2 = 0
  ·simp [h0.1, h0.2, h s (List.mem_range.1 hs) h0.1 h0.2]
  ·by_cases a : s / 2 ^ i % 2 = 0
   ·have b : ¬ s / 2 ^ j % 2 = 0 := fun b => h0 ⟨a, b⟩
    simp [b]
   ·simp [a]
theorem Alk.refl (n : Nat) (v : List Int) (i : Nat) : Alk n v i i := fun _ _ _ _ => rfl
theorem Alk.symm {n : Nat} {v : List Int} {i j : Nat} (h : Alk n v i j) : Alk n v j i := fun s hs a b => (h s hs b a).symm
theorem set_all : ((List.range 7).all fun n => (List.range n).all fun i => (List.range n).all fun j => i == j || (List.range (2 ^ n)).all fun s => !(s / 2 ^ i % 2 == 0) || (decide (s + 2 ^ i < 2 ^ n) && (s + 2 ^ i) / 2 ^ j % 2 == s / 2 ^ j % 2)) = true := by decide +kernel
theorem bit_set {n i j s : Nat} (hn : n ≤ 6) (hi : i < n) (hj : j < n) (hij : i ≠ j) (hs : s < 2 ^ n) (h0 : s / 2 ^ i % 2 = 0) : s + 2 ^ i < 2 ^ n ∧ (s + 2 ^ i) / 2 ^ j % 2 = s / 2 ^ j % 2 := by
 have h := List.all_eq_true.1 (List.all_eq_true.1 (List.all_eq_true.1 set_all n (List.mem_range.2 (by omega))) i (List.mem_range.2 hi)) j (List.mem_range.2 hj)
 rw [Bool.or_eq_true, beq_iff_eq] at h
 have h := List.all_eq_true.1 (h.resolve_left hij) s (List.mem_range.2 hs)
 simp [h0] at h
 exact h
theorem clr_all : ((List.range 7).all fun n => (List.range n).all fun i => (List.range n).all fun j => (List.range (2 ^ n)).all fun s => !(s / 2 ^ j % 2 == 1) || (decide (2 ^ j ≤ s) && (s - 2 ^ j) / 2 ^ j % 2 == 0 && (i == j || (s - 2 ^ j) / 2 ^ i % 2 == s / 2 ^ i % 2))) = true := by decide +kernel
theorem bit_clr {n i j s : Nat} (hn : n ≤ 6) (hi : i < n) (hj : j < n) (hs : s < 2 ^ n) (h0 : s / 2 ^ j % 2 = 1) : 2 ^ j ≤ s ∧ (s - 2 ^ j) / 2 ^ j % 2 = 0 ∧ (i = j ∨ (s - 2 ^ j) / 2 ^ i % 2 = s / 2 ^ i % 2) := by
 have h := List.all_eq_true.1 (List.all_eq_true.1 (List.all_eq_true.1 (List.all_eq_true.1 clr_all n (List.mem_range.2 (by omega))) i (List.mem_range.2 hi)) j (List.mem_range.2 hj)) s (List.mem_range.2 hs)
 simp [h0] at h
 exact ⟨h.1.1, h.1.2, h.2⟩
theorem Alk.trans {n : Nat} (hn : n ≤ 6) {v : List Int} {i j k : Nat} (hi : i < n) (hj : j < n) (hk : k < n) (h : Alk n v i j) (h' : Alk n v j k) : Alk n v i k := by
 by_cases e1 : i = j
 ·rw [e1]; exact h'
 by_cases e2 : j = k
 ·rw [← e2]; exact h
 by_cases e3 : i = k
 ·rw [e3]; exact Alk.refl _ _ _
 intro s hs a b
 rcases Nat.mod_two_eq_zero_or_one (s / 2 ^ j) with c | c
 ·rw [h s hs a c, h' s hs c b]
 ·obtain ⟨p, q, r1⟩ := bit_clr hn hi hj hs c
  obtain ⟨_, _, r2⟩ := bit_clr hn hk hj hs c
  have r1 := r1.resolve_left e1
  have r2 := r2.resolve_left (fun x => e2 x.symm)
  have lt : s - 2 ^ j < 2 ^ n := Nat.lt_of_le_of_lt (Nat.sub_le _ _) hs
  rw [a] at r1; rw [b] at r2
  obtain ⟨l1, m1⟩ := bit_set hn hi hk e3 lt r1
  obtain ⟨_, m2⟩ := bit_set hn hi hj e1 lt r1
  obtain ⟨l3, m3⟩ := bit_set hn hk hi (fun x => e3 x.symm) lt r2
  obtain ⟨_, m4⟩ := bit_set hn hk hj (fun x => e2 x.symm) lt r2
  rw [r2] at m1; rw [q] at m2; rw [r1] at m3; rw [q] at m4
  have x1 := h' (s - 2 ^ j + 2 ^ i) l1 m2 m1
  have x2 := h (s - 2 ^ j + 2 ^ k) l3 m3 m4
  rw [show s - 2 ^ j + 2 ^ i + 2 ^ j = s + 2 ^ i by omega] at x1
  rw [show s - 2 ^ j + 2 ^ k + 2 ^ j = s + 2 ^ k by omega] at x2
  rw [x1, ← x2]; congr 1; omega
def repV (n : Nat) (v : List Int) (i : Nat) : Nat := (List.range i).findIdx fun j => alB n v j i
theorem repV_le (n : Nat) (v : List Int) (i : Nat) : repV n v i ≤ i := by
 have := List.findIdx_le_length (xs := List.range i) (p := fun j => alB n v j i)
 rwa [List.length_range] at this
theorem repV_al (n : Nat) (v : List Int) (i : Nat) : Alk n v (repV n v i) i := by
 by_cases h : repV n v i < i
 ·have := List.findIdx_getElem (xs := List.range i) (p := fun j => alB n v j i) (w := by rw [List.length_range]; exact h)
  rw [List.getElem_range] at this
  exact alB_iff.1 this
 ·rw [show repV n v i = i by have := repV_le n v i; omega]; exact Alk.refl _ _ _
theorem repV_min {n : Nat} {v : List Int} {i j : Nat} (hj : j < i) (h : Alk n v j i) : repV n v i ≤ j := by
 refine Nat.le_of_not_lt fun x => ?_
 have := List.not_of_lt_findIdx (xs := List.range i) (p := fun j => alB n v j i) x
 rw [List.getElem_range] at this
 rw [alB_iff.2 h] at this
 exact absurd this (by simp)
theorem repV_eq {n : Nat} (hn : n ≤ 6) {v : List Int} {i j : Nat} (hi : i < n) (hj : j < n) (h : Alk n v i j) : repV n v i = repV n v j := by
 have ai := repV_al n v i
 have aj := repV_al n v j
 have li := repV_le n v i
 have lj := repV_le n v j
 have a1 : Alk n v (repV n v i) j := ai.trans hn (by omega) hi hj h
 have a2 : Alk n v (repV n v j) i := aj.trans hn (by omega) hj hi h.symm
 have m1 : repV n v j ≤ repV n v i := by
  by_cases x : repV n v i < j
  ·exact repV_min x a1
  ·omega
 have m2 : repV n v i ≤ repV n v j := by
  by_cases x : repV n v j < i
  ·exact repV_min x a2
  ·omega
 omega
def rV (n : Nat) (v : List Int) : List Nat := (List.range n).map (repV n v)
theorem rV_get {n : Nat} {v : List Int} {i : Nat} (hi : i < n) : (rV n v).getD i 0 = repV n v i := by simp [rV, hi]
theorem repV_idem {n : Nat} (hn : n ≤ 6) {v : List Int} {i : Nat} (hi : i < n) : repV n v (repV n v i) = repV n v i :=
 repV_eq hn (Nat.lt_of_le_of_lt (repV_le _ _ _) hi) hi (repV_al n v i)
def clsV (n : Nat) (v : List Int) : List (List Nat) := clsR (rV n v)
end Go.Shr
set_option maxRecDepth 100000
namespace Go.Shr
def hdP (n : Nat) (v : List Int) (m : Nat) : List Nat := (List.range m).filter fun j => repV n v j == j
def memP (n : Nat) (v : List Int) (m j : Nat) : List Nat := (List.range m).filter fun i => repV n v i == j
def clsP (n : Nat) (v : List Int) (m : Nat) : List (List Nat) := (hdP n v m).map (memP n v m)
theorem clsV_P (n : Nat) (v : List Int) : clsV n v = clsP n v n := by
 have hl : (rV n v).length = n := by simp [rV]
 rw [clsV, clsR, clsP, hdP, hl]
 have e1 : (List.range n).filter (fun j => (rV n v).getD j 0 == j) = (List.range n).filter fun j => repV n v j == j :=
  List.filter_congr fun j hj => by rw [rV_get (List.mem_range.1 hj)]
 rw [e1]
 refine List.map_congr_left fun j _ => ?_
 exact List.filter_congr fun i hi => by rw [rV_get (List.mem_range.1 hi)]
theorem hdP_sorted (n : Nat) (v : List Int) (m : Nat) : (hdP n v m).Pairwise (· < ·) := (List.pairwise_lt_range).filter _
theorem hdP_mem {n m j : Nat} {v : List Int} : j ∈ hdP n v m ↔ j < m ∧ repV n v j = j := by rw [hdP, List.mem_filter, List.mem_range, beq_iff_eq]
theorem memP_mem {n m i j : Nat} {v : List Int} : i ∈ memP n v m j ↔ i < m ∧ repV n v i = j := by rw [memP, List.mem_filter, List.mem_range, beq_iff_eq]
theorem memP_sorted (n : Nat) (v : List Int) (m j : Nat) : (memP n v m j).Pairwise (· < ·) := (List.pairwise_lt_range).filter _
theorem memP_head {n m j : Nat} {v : List Int} (hj : j < m) (h : repV n v j = j) : (memP n v m j)[0]? = some j := by
 have hm : j ∈ memP n v m j := memP_mem.2 ⟨hj, h⟩
 have hs := memP_sorted n v m j
 rcases e : memP n v m j with _ | ⟨a, l⟩
 ·rw [e] at hm; cases hm
 ·rw [e] at hm hs
  rcases List.mem_cons.1 hm with x | x
  ·rw [x]; rfl
  ·have h1 := (List.pairwise_cons.1 hs).1 j x
   have h2 : a ∈ memP n v m j := by rw [e]; exact List.mem_cons_self
   have h3 := (memP_mem.1 h2).2
   have := repV_le n v a
   omega
def descP (n : Nat) (v : List Int) (m k : Nat) : List Nat := ((List.range n).filter fun i => decide (m ≤ i) && (i != k && repV n v i == k)).reverse
theorem descP_top {n m k : Nat} {v : List Int} (h : n ≤ m) : descP n v m k = [] := by
 rw [descP, List.reverse_eq_nil_iff, List.filter_eq_nil_iff]
 intro i hi
 have := List.mem_range.1 hi
 have e : decide (m ≤ i) = false := by simp; omega
 simp [e]
theorem filter_ge {n m : Nat} (hm : m < n) (p : Nat → Bool) : (List.range n).filter (fun i => decide (m ≤ i) && p i) = (if p m then [m] else []) ++ (List.range n).filter fun i => decide (m + 1 ≤ i) && p i := by
 obtain ⟨d, rfl⟩ : ∃ d, n = m + (1 + d) := ⟨n - m - 1, by omega⟩
 rw [List.range_add, List.filter_append, List.filter_append]
 have z1 : (List.range m).filter (fun i => decide (m ≤ i) && p i) = [] := by
  rw [List.filter_eq_nil_iff]; intro i hi
  have := List.mem_range.1 hi
  simp; omega
 have z2 : (List.range m).filter (fun i => decide (m + 1 ≤ i) && p i) = [] := by
  rw [List.filter_eq_nil_iff]; intro i hi
  have := List.mem_range.1 hi
  simp; omega
 rw [z1, z2, List.nil_append, List.nil_append, List.range_add, List.map_append, List.filter_append, List.filter_append]
 have a1 : (List.map (fun x => m + x) (List.range 1)).filter (fun i => decide (m ≤ i) && p i) = if p m then [m] else [] := by
  by_cases h : p m <;> simp [List.range_succ, h]
 have a2 : (List.map (fun x => m + x) (List.range 1)).filter (fun i => decide (m + 1 ≤ i) && p i) = [] := by
  simp [List.range_succ]
  intro h; omega
 rw [a1, a2, List.nil_append]
 congr 1
 refine List.filter_congr fun i hi => ?_
 rw [List.mem_map] at hi
 obtain ⟨x, hx, rfl⟩ := hi
 rw [List.mem_map] at hx
 obtain ⟨y, hy, rfl⟩ := hx
 have e1 : decide (m ≤ m + (1 + y)) = true := decide_eq_true (by omega)
 have e2 : decide (m + 1 ≤ m + (1 + y)) = true := decide_eq_true (by omega)
 rw [e1, e2]
theorem descP_step {n m k : Nat} {v : List Int} (hm : m < n) : descP n v m k = descP n v (m + 1) k ++ if m ≠ k ∧ repV n v m = k then [m] else [] := by
 rw [descP, filter_ge hm, List.reverse_append, descP]
 congr 1
 by_cases h : m ≠ k ∧ repV n v m = k
 ·rw [if_pos h, if_pos (by simp [h.1, h.2])]; rfl
 ·rw [if_neg h, if_neg (by simp; exact fun a b => h ⟨a, b⟩)]; rfl
theorem descP_none {n m k : Nat} {v : List Int} (hn : n ≤ 6) (h : repV n v k ≠ k) : descP n v m k = [] := by
 rw [descP, List.reverse_eq_nil_iff, List.filter_eq_nil_iff]
 intro i hi
 have hi := List.mem_range.1 hi
 by_cases e : repV n v i = k
 ·have := repV_idem hn (v := v) hi
  rw [e] at this
  exact absurd this h
 ·simp [e]
theorem descP_mem {n m i k : Nat} {v : List Int} : i ∈ descP n v m k ↔ i < n ∧ m ≤ i ∧ i ≠ k ∧ repV n v i = k := by
 rw [descP, List.mem_reverse, List.mem_filter, List.mem_range]; simp
theorem mem_final {n k i : Nat} {v : List Int} (hk : k < n) (h : repV n v k = k) : i ∈ k :: descP n v 1 k ↔ i ∈ memP n v n k := by
 rw [List.mem_cons, descP_mem, memP_mem]
 constructor
 ·rintro (rfl | ⟨a, b, c, d⟩)
  ·exact ⟨hk, h⟩
  ·exact ⟨a, d⟩
 ·rintro ⟨a, b⟩
  by_cases e : i = k
  ·exact .inl e
  ·refine .inr ⟨a, ?_, e, b⟩
   have := repV_le n v i
   omega
end Go.Shr
set_option maxRecDepth 100000
namespace Go.Shr
theorem many_fold (l : List Nat) (a b : Nat) : l.foldl (fun p k => (p.1 * (k + 1), p.2 + k)) (a, b) = (a * (many l).1, b + (many l).2) := by
 unfold many
 induction l generalizing a b with
 | nil => simp
 | cons k l ih =>
  rw [List.foldl_cons, List.foldl_cons, ih, ih (1 * (k + 1)) (0 + k)]
  simp only [Prod.mk.injEq]
  constructor
  ·rw [Nat.one_mul, Nat.mul_assoc]
  ·omega
theorem many_cons (k : Nat) (l : List Nat) : many (k :: l) = ((k + 1) * (many l).1, k + (many l).2) := by
 show List.foldl _ _ _ = _
 rw [List.foldl_cons, many_fold]
 simp
theorem many_pos (l : List Nat) : 0 < (many l).1 := by
 induction l with
 | nil => decide
 | cons k l ih => rw [many_cons]; exact Nat.mul_pos (by omega) ih
theorem cnt_len : ∀ (l : List Nat) (ix : Nat), (cnt l ix).length = l.length
 | [], _ => rfl
 | k :: l, ix => by rw [cnt, List.length_cons, cnt_len l, List.length_cons]
theorem cnt_le : ∀ (l : List Nat) (ix c : Nat), (cnt l ix).getD c 0 ≤ l.getD c 0
 | [], _, _ => Nat.le_refl _
 | k :: l, ix, 0 => by
  show ix % (k + 1) ≤ k
  have := Nat.mod_lt ix (show 0 < k + 1 by omega)
  omega
 | k :: l, ix, c + 1 => cnt_le l (ix / (k + 1)) c
theorem cnt_sum_le : ∀ (l : List Nat) (ix : Nat), (cnt l ix).sum ≤ (many l).2
 | [], _ => Nat.le_refl _
 | k :: l, ix => by
  rw [cnt, List.sum_cons, many_cons]
  have := cnt_sum_le l (ix / (k + 1))
  have := Nat.mod_lt ix (show 0 < k + 1 by omega)
  show _ ≤ k + (many l).2
  omega
theorem cnt_sum_lt : ∀ (l : List Nat) (ix c : Nat), (cnt l ix).getD c 0 < l.getD c 0 → (cnt l ix).sum + 1 ≤ (many l).2
 | [], _, _, h => absurd h (Nat.lt_irrefl _)
 | k :: l, ix, 0, h => by
  rw [cnt, List.sum_cons, many_cons]
  have := cnt_sum_le l (ix / (k + 1))
  have h : ix % (k + 1) < k := h
  show _ ≤ k + (many l).2
  omega
 | k :: l, ix, c + 1, h => by
  rw [cnt, List.sum_cons, many_cons]
  have := cnt_sum_lt l (ix / (k + 1)) c h
  have := Nat.mod_lt ix (show 0 < k + 1 by omega)
  show _ ≤ k + (many l).2
  omega
theorem step_lt : ∀ (l : List Nat) (ix c : Nat), ix < (many l).1 → (cnt l ix).getD c 0 < l.getD c 0 → ix + (many (l.take c)).1 < (many l).1
 | [], _, _, _, h => absurd h (Nat.lt_irrefl _)
 | k :: l, ix, 0, hx, h => by
  have h : ix % (k + 1) < k := h
  rw [many_cons] at hx ⊢
  have hx : ix < (k + 1) * (many l).1 := hx
  show ix + 1 < (k + 1) * (many l).1
  have hd : ix / (k + 1) < (many l).1 := Nat.div_lt_of_lt_mul hx
  have e := Nat.div_add_mod ix (k + 1)
  have h2 : (k + 1) * (ix / (k + 1) + 1) ≤ (k + 1) * (many l).1 := Nat.mul_le_mul_left _ hd
  rw [Nat.mul_add] at h2
  omega
 | k :: l, ix, c + 1, hx, h => by
  rw [many_cons] at hx
  have hx : ix < (k + 1) * (many l).1 := hx
  have hd : ix / (k + 1) < (many l).1 := Nat.div_lt_of_lt_mul hx
  have ih := step_lt l (ix / (k + 1)) c hd h
  rw [List.take_succ_cons, many_cons, many_cons]
  show ix + (k + 1) * (many (l.take c)).1 < (k + 1) * (many l).1
  have e := Nat.div_add_mod ix (k + 1)
  have m := Nat.mod_lt ix (show 0 < k + 1 by omega)
  have h2 : (k + 1) * (ix / (k + 1) + (many (l.take c)).1 + 1) ≤ (k + 1) * (many l).1 := Nat.mul_le_mul_left _ ih
  rw [Nat.mul_add, Nat.mul_add] at h2
  omega
def wgM (sizes : List Nat) (c ix : Nat) : Nat := wayM c 0 sizes (cnt sizes ix) * fac (cnt sizes ix).sum * fac ((many sizes).2 - (cnt sizes ix).sum - 1)
def tmM (sizes : List Nat) (v : List Int) (c : Nat) : List (Int × Int) :=
 (List.range (many sizes).1).filterMap fun ix => if (cnt sizes ix).getD c 0 = sizes.getD c 0 then none else some (g v (ix + (many (sizes.take c)).1) - g v ix, ((wgM sizes c ix : Nat) : Int))
theorem tmM_lf (sizes : List Nat) (c : Nat) (v : List Int) (L : List Nat) :
 dotT (L.filterMap fun ix => if (cnt sizes ix).getD c 0 = sizes.getD c 0 then none else some (g v (ix + (many (sizes.take c)).1) - g v ix, ((wgM sizes c ix : Nat) : Int))) =
 ev (L.flatMap fun ix => if (cnt sizes ix).getD c 0 = sizes.getD c 0 then [] else [(((wgM sizes c ix : Nat) : Int), ix + (many (sizes.take c)).1), (-((wgM sizes c ix : Nat) : Int), ix)]) v := by
 induction L with
 | nil => rfl
 | cons s L ih =>
  rw [List.filterMap_cons, List.flatMap_cons, ev_append]
  split
  ·next h =>
   split at h
   ·next h1 => rw [if_pos h1, ev_nil, ih]; omega
   ·cases h
  ·next b h =>
   split at h
   ·cases h
   ·next h1 =>
    rw [if_neg h1, ← Option.some.inj h, dotT_cons, ih, ev_cons, ev_cons, ev_nil]
    simp only [Int.sub_mul, Int.neg_mul]
    rw [Int.mul_comm (g v (s + _)), Int.mul_comm (g v s)]
    omega
theorem numM_dot (sizes : List Nat) (v : List Int) (c : Nat) : numM sizes v c = dotT (tmM sizes v c) := (tmM_lf sizes c v _).symm
def shrM (sizes : List Nat) (v : List Int) (c : Nat) : Rat := (numM sizes v c : Rat) / (fac (many sizes).2 : Int)
def shrsM (sizes : List Nat) (v : List Int) : List Rat := (List.range sizes.length).map (shrM sizes v)
theorem wayM_snoc (c : Nat) : ∀ (l m : List Nat) (n k d : Nat), l.length = m.length → wayM c d (l ++ [n]) (m ++ [k]) = wayM c d l m * (if d + l.length = c then cho (n - 1) k else cho n k)
 | [], [], n, k, d, _ => by simp [wayM]
 | [], _ :: _, _, _, _, h => by simp at h
 | _ :: _, [], _, _, _, h => by simp at h
 | a :: l, b :: m, n, k, d, h => by
  have ih := wayM_snoc c l m n k (d + 1) (by simpa using h)
  rw [List.cons_append, List.cons_append, wayM, wayM, ih, Nat.mul_assoc]
  have : d + 1 + l.length = d + (a :: l).length := by rw [List.length_cons]; omega
  rw [this]
theorem cho_all : ((List.range 11).all fun n => (List.range (n + 1)).all fun k => decide (1 ≤ cho n k) && decide (cho n k ≤ 2 ^ n)) = true := by decide +kernel
theorem cho_bd {n k : Nat} (hn : n ≤ 10) (hk : k ≤ n) : 1 ≤ cho n k ∧ cho n k ≤ 2 ^ n := by
 have h := List.all_eq_true.1 (List.all_eq_true.1 cho_all n (List.mem_range.2 (by omega))) k (List.mem_range.2 (by omega))
 rw [Bool.and_eq_true, decide_eq_true_eq, decide_eq_true_eq] at h
 exact h
def wOkM (c : Nat) : Nat → List Nat → List Nat → Prop
 | d, n :: l, k :: m => n ≤ 10 ∧ k ≤ n ∧ (d = c → k < n) ∧ wOkM c (d + 1) l m
 | _, [], [] => True
 | _, _, _ => False
theorem wayM_bd (c : Nat) : ∀ (l m : List Nat) (d : Nat), wOkM c d l m → 1 ≤ wayM c d l m ∧ wayM c d l m ≤ 2 ^ (many l).2
 | [], [], _, _ => by simp [wayM, many]
 | [], _ :: _, _, h => h.elim
 | _ :: _, [], _, h => h.elim
 | n :: l, k :: m, d, h => by
  obtain ⟨h1, h2, h3, h4⟩ := h
  have ih := wayM_bd c l m (d + 1) h4
  have hb : 1 ≤ (if d = c then cho (n - 1) k else cho n k) ∧ (if d = c then cho (n - 1) k else cho n k) ≤ 2 ^ n := by
   split
   ·next e =>
    have := cho_bd (n := n - 1) (k := k) (by omega) (by have := h3 e; omega)
    exact ⟨this.1, Nat.le_trans this.2 (Nat.pow_le_pow_right (by decide) (by omega))⟩
   ·exact cho_bd h1 h2
  rw [wayM, many_cons]
  show _ ∧ _ ≤ 2 ^ (n + (many l).2)
  rw [Nat.pow_add]
  exact ⟨Nat.mul_le_mul hb.1 ih.1, Nat.mul_le_mul hb.2 ih.2⟩
theorem wOk_cnt (c : Nat) : ∀ (l : List Nat) (ix d : Nat), (∀ k ∈ l, k ≤ 10) → (d ≤ c → (cnt l ix).getD (c - d) 0 < l.getD (c - d) 0) → wOkM c d l (cnt l ix)
 | [], _, _, _, _ => trivial
 | n :: l, ix, d, h, hc => by
  refine ⟨h n List.mem_cons_self, ?_, ?_, ?_⟩
  ·have := Nat.mod_lt ix (show 0 < n + 1 by omega); omega
  ·rintro rfl
   have := hc (Nat.le_refl _)
   rw [Nat.sub_self] at this
   exact this
  ·refine wOk_cnt c l (ix / (n + 1)) (d + 1) (fun k hk => h k (List.mem_cons_of_mem _ hk)) fun hd => ?_
   have := hc (by omega)
   rw [show c - d = (c - (d + 1)) + 1 by omega] at this
   exact this
theorem wOk_take (c : Nat) : ∀ (l m : List Nat) (d j : Nat), wOkM c d l m → wOkM c d (l.take j) (m.take j)
 | [], [], _, _, _ => by simp [wOkM]
 | [], _ :: _, _, _, h => h.elim
 | _ :: _, [], _, _, h => h.elim
 | n :: l, k :: m, d, 0, h => trivial
 | n :: l, k :: m, d, j + 1, h => ⟨h.1, h.2.1, h.2.2.1, wOk_take c l m (d + 1) j h.2.2.2⟩
theorem fac2_all : ((List.range 10).all fun a => (List.range (10 - a)).all fun b => decide (fac a * fac b ≤ 362880)) = true := by decide +kernel
theorem fac2_le {a b : Nat} (h : a + b ≤ 9) : fac a * fac b ≤ 362880 :=
 of_decide_eq_true (List.all_eq_true.1 (List.all_eq_true.1 fac2_all a (List.mem_range.2 (by omega))) b (List.mem_range.2 (by omega)))
theorem wgM_le {sizes : List Nat} {c ix : Nat} (hk : ∀ k ∈ sizes, k ≤ 10) (hn : (many sizes).2 ≤ 10) (h : (cnt sizes ix).getD c 0 < sizes.getD c 0) : wgM sizes c ix ≤ 1024 * 362880 := by
 have h1 := (wayM_bd c _ _ 0 (wOk_cnt c sizes ix 0 hk fun _ => h)).2
 have h2 : 2 ^ (many sizes).2 ≤ 2 ^ 10 := Nat.pow_le_pow_right (by decide) hn
 have h3 := cnt_sum_lt sizes ix c h
 have h4 := fac2_le (a := (cnt sizes ix).sum) (b := (many sizes).2 - (cnt sizes ix).sum - 1) (by omega)
 unfold wgM
 rw [Nat.mul_assoc]
 exact Nat.mul_le_mul (Nat.le_trans h1 h2) h4
end Go.Shr
set_option maxRecDepth 100000
namespace Go.Shr
def mk (L : List Nat) : Nat := (L.map (2 ^ ·)).sum
theorem mk_cons (i : Nat) (L : List Nat) : mk (i :: L) = 2 ^ i + mk L := by simp [mk]
theorem mk_app (a b : List Nat) : mk (a ++ b) = mk a + mk b := by simp [mk]
theorem mk_inv {n : Nat} (hn : n ≤ 6) : ∀ L : List Nat, L.Nodup → (∀ i ∈ L, i < n) → mk L < 2 ^ n ∧ ∀ j, j < n → mk L / 2 ^ j % 2 = if j ∈ L then 1 else 0
 | [], _, _ => ⟨Nat.two_pow_pos n, fun j _ => by simp [mk]⟩
 | i :: L, hd, hl => by
  rw [List.nodup_cons] at hd
  obtain ⟨h1, h2⟩ := mk_inv hn L hd.2 fun j hj => hl j (List.mem_cons_of_mem _ hj)
  have hi := hl i List.mem_cons_self
  have h0 : mk L / 2 ^ i % 2 = 0 := by rw [h2 i hi, if_neg hd.1]
  rw [mk_cons, Nat.add_comm]
  by_cases hn1 : n = 1
  ·subst hn1
   have : i = 0 := by omega
   subst this
   have h3 : mk L < 2 := h1
   have h4 : mk L / 1 % 2 = 0 := h0
   refine ⟨by show mk L + 1 < 2; omega, fun j hj => ?_⟩
   have : j = 0 := by omega
   subst this
   rw [if_pos List.mem_cons_self]
   show (mk L + 1) / 1 % 2 = 1
   omega
  ·obtain ⟨k, hk, hki⟩ : ∃ k, k < n ∧ i ≠ k := by
    by_cases e : i = 0
    ·exact ⟨1, by omega, by omega⟩
    ·exact ⟨0, by omega, e⟩
   refine ⟨(bit_set hn hi hk hki h1 h0).1, fun j hj => ?_⟩
   by_cases e : i = j
   ·subst e
    rw [if_pos List.mem_cons_self, Nat.add_div_right _ (Nat.two_pow_pos i)]
    omega
   ·rw [(bit_set hn hi hj e h1 h0).2, h2 j hj]
    by_cases hm : j ∈ L
    ·rw [if_pos hm, if_pos (List.mem_cons_of_mem _ hm)]
    ·rw [if_neg hm, if_neg (by simp [hm]; exact fun x => e x.symm)]
theorem mk_or {n i : Nat} (hn : n ≤ 6) {L : List Nat} (hd : (L ++ [i]).Nodup) (hl : ∀ j ∈ L ++ [i], j < n) : mk L / 2 ^ i % 2 = 0 ∧ mk L < 2 ^ n ∧ mk (L ++ [i]) = mk L + 2 ^ i := by
 have hd' := List.nodup_append.1 hd
 obtain ⟨h1, h2⟩ := mk_inv hn L hd'.1 fun j hj => hl j (List.mem_append_left _ hj)
 have hi := hl i (by simp)
 refine ⟨?_, h1, by rw [mk_app]; simp [mk]⟩
 rw [h2 i hi, if_neg]
 intro hc
 exact hd'.2.2 i hc i (by simp) rfl
def tkC (cl : List (List Nat)) (ks : List Nat) (c : Nat) : List Nat := ((cl.take c).zip ks).flatMap fun t => t.1.take t.2
theorem tkC_succ {cl : List (List Nat)} {ks : List Nat} {c k : Nat} {l : List Nat} (hl : cl[c]? = some l) (hk : ks[c]? = some k) : tkC cl ks (c + 1) = tkC cl ks c ++ l.take k := by
 have hc := (List.getElem?_eq_some_iff.1 hl).1
 have hc2 := (List.getElem?_eq_some_iff.1 hk).1
 obtain ⟨ka, kb, hka, hkl⟩ : ∃ ka kb, ks = ka ++ kb ∧ ka.length = c := ⟨ks.take c, ks.drop c, (List.take_append_drop c ks).symm, by rw [List.length_take]; omega⟩
 subst hka
 have hkb : kb[0]? = some k := by rw [List.getElem?_append_right (by omega), hkl, Nat.sub_self] at hk; exact hk
 obtain ⟨kt, rfl⟩ : ∃ kt, kb = k :: kt := by
  cases kb with
  | nil => cases hkb
  | cons x kt => simp at hkb; subst hkb; exact ⟨kt, rfl⟩
 unfold tkC
 have ht : cl.take (c + 1) = cl.take c ++ [l] := by rw [List.take_add_one, hl]; rfl
 have hlen : (cl.take c).length = ka.length := by rw [List.length_take]; omega
 rw [ht, List.zip_append hlen, List.flatMap_append]
 have e1 : (cl.take c).zip (ka ++ k :: kt) = (cl.take c).zip ka := by
  have := List.zip_append (l₁ := cl.take c) (r₁ := ([] : List (List Nat))) (l₂ := ka) (r₂ := k :: kt) hlen
  simpa using this
 rw [e1]
 simp
theorem maskR_tk (cl : List (List Nat)) (ks : List Nat) : maskR cl ks = mk (tkC cl ks cl.length) := by
 unfold maskR tkC
 rw [List.take_length]
 generalize cl.zip ks = z
 induction z with
 | nil => rfl
 | cons t z ih => rw [List.map_cons, List.sum_cons, List.flatMap_cons, mk_app, ih]; rfl
theorem tkC_sub (cl : List (List Nat)) (ks : List Nat) (c : Nat) : (tkC cl ks c).Sublist (cl.take c).flatten := by
 unfold tkC
 generalize cl.take c = z
 induction z generalizing ks with
 | nil => simp
 | cons l z ih =>
  cases ks with
  | nil => simp
  | cons k ks => rw [List.zip_cons_cons, List.flatMap_cons, List.flatten_cons]; exact (List.take_sublist k l).append (ih ks)
theorem tkC_part {cl : List (List Nat)} {ks : List Nat} {c m : Nat} {l : List Nat} (hl : cl[c]? = some l) : (tkC cl ks c ++ l.take m).Sublist cl.flatten := by
 have hc := (List.getElem?_eq_some_iff.1 hl).1
 have h1 : ((cl.take c).flatten ++ l).Sublist cl.flatten := by
  have ht : cl.take (c + 1) = cl.take c ++ [l] := by rw [List.take_add_one, hl]; rfl
  have : ((cl.take (c + 1)).flatten).Sublist cl.flatten := by
   have h2 := List.take_append_drop (c + 1) cl
   conv => rhs; rw [← h2]
   rw [List.flatten_append]
   exact List.sublist_append_left _ _
  rw [ht, List.flatten_append] at this
  simpa using this
 exact ((tkC_sub cl ks c).append (List.take_sublist m l)).trans h1
theorem clsP_nodup (n : Nat) (v : List Int) (m : Nat) : (clsP n v m).flatten.Nodup := by
 show List.Pairwise (· ≠ ·) (clsP n v m).flatten
 rw [clsP, List.pairwise_flatten]
 constructor
 ·intro l hl
  obtain ⟨j, _, rfl⟩ := List.mem_map.1 hl
  exact (memP_sorted n v m j).imp fun h => by omega
 ·rw [List.pairwise_map]
  refine (hdP_sorted n v m).imp fun {a b} hab => ?_
  intro x hx y hy
  rintro rfl
  have h1 := (memP_mem.1 hx).2
  have h2 := (memP_mem.1 hy).2
  omega
theorem clsV_nodup (n : Nat) (v : List Int) : (clsV n v).flatten.Nodup := by rw [clsV_P]; exact clsP_nodup n v n
theorem clsV_lt {n i : Nat} {v : List Int} (h : i ∈ (clsV n v).flatten) : i < n := by
 rw [clsV_P, clsP] at h
 obtain ⟨l, hl, hi⟩ := List.mem_flatten.1 h
 obtain ⟨j, _, rfl⟩ := List.mem_map.1 hl
 exact (memP_mem.1 hi).1
theorem red_or {n c m i : Nat} (hn : n ≤ 6) {v : List Int} {ks l : List Nat} (hl : (clsV n v)[c]? = some l) (hi : l[m]? = some i) :
 i < n ∧ mk (tkC (clsV n v) ks c ++ l.take m) / 2 ^ i % 2 = 0 ∧ mk (tkC (clsV n v) ks c ++ l.take m) < 2 ^ n ∧ mk (tkC (clsV n v) ks c ++ l.take (m + 1)) = mk (tkC (clsV n v) ks c ++ l.take m) + 2 ^ i := by
 have hs := tkC_part (ks := ks) (m := m + 1) hl
 have ht : l.take (m + 1) = l.take m ++ [i] := by rw [List.take_add_one, hi]; rfl
 rw [ht, ← List.append_assoc] at hs
 have h := mk_or hn (hs.nodup (clsV_nodup n v)) fun j hj => clsV_lt (hs.subset hj)
 rw [ht, ← List.append_assoc]
 exact ⟨clsV_lt (hs.subset (by simp)), h⟩
theorem red_lt2 {n c : Nat} (hn : n ≤ 6) {v : List Int} {ks : List Nat} : mk (tkC (clsV n v) ks c) < 2 ^ n := by
 have hs : (tkC (clsV n v) ks c).Sublist (clsV n v).flatten := by
  refine (tkC_sub _ ks c).trans ?_
  have h2 := List.take_append_drop c (clsV n v)
  conv => rhs; rw [← h2]
  rw [List.flatten_append]
  exact List.sublist_append_left _ _
 exact (mk_inv hn _ (hs.nodup (clsV_nodup n v)) fun j hj => clsV_lt (hs.subset hj)).1
end Go.Shr
set_option maxRecDepth 100000
namespace Go.Shr
def liv (n : Nat) (v : List Int) (m : Nat) : List Nat := (List.range n).filter fun k => decide (k < m) || repV n v k == k
theorem liv_mem {n m k : Nat} {v : List Int} : k ∈ liv n v m ↔ k < n ∧ (k < m ∨ repV n v k = k) := by
 rw [liv, List.mem_filter, List.mem_range]; simp
theorem liv_top (n : Nat) (v : List Int) : liv n v n = List.range n := by
 rw [liv, List.filter_eq_self]
 intro k hk
 have := List.mem_range.1 hk
 simp [this]
theorem liv_sorted (n : Nat) (v : List Int) (m : Nat) : (liv n v m).Pairwise (· < ·) := (List.pairwise_lt_range).filter _
theorem liv_nodup (n : Nat) (v : List Int) (m : Nat) : (liv n v m).Nodup := (liv_sorted n v m).imp fun h => by omega
theorem liv_len (n : Nat) (v : List Int) (m : Nat) : (liv n v m).length ≤ n := by
 have := List.length_filter_le (fun k => decide (k < m) || repV n v k == k) (List.range n)
 rwa [List.length_range] at this
theorem liv_keep {n i : Nat} {v : List Int} (h : repV n v i = i) : liv n v i = liv n v (i + 1) := by
 refine List.filter_congr fun k _ => ?_
 by_cases e : k = i
 ·subst e; simp [h]
 ·by_cases e2 : k < i
  ·simp [e2, show k < i + 1 by omega]
  ·simp [e2, show ¬ k < i + 1 by omega]
theorem liv_drop {n i : Nat} {v : List Int} (h : repV n v i ≠ i) : liv n v i = (liv n v (i + 1)).erase i := by
 rw [(liv_nodup n v (i + 1)).erase_eq_filter, liv, liv, List.filter_filter]
 refine List.filter_congr fun k _ => ?_
 by_cases e : k = i
 ·subst e; simp [h]
 ·by_cases e2 : k < i
  ·simp [e2, show k < i + 1 by omega, e]
  ·simp [e2, show ¬ k < i + 1 by omega, e]
theorem liv_end {n m : Nat} {v : List Int} (hm : m ≤ 1) : liv n v m = hdP n v n := by
 refine List.filter_congr fun k _ => ?_
 by_cases e : k < m
 ·have : k = 0 := by omega
  subst this
  have := repV_le n v 0
  simp; omega
 ·simp [e]
def cK (n : Nat) (v : List Int) (m k : Nat) : List Nat := k :: descP n v m k
theorem cK_top {n : Nat} {v : List Int} (k : Nat) : cK n v n k = [k] := by rw [cK, descP_top (Nat.le_refl n)]
theorem cK_keep {n i k : Nat} {v : List Int} (hi : i < n) (h : repV n v i ≠ k ∨ i = k) : cK n v i k = cK n v (i + 1) k := by
 rw [cK, cK, descP_step hi, if_neg, List.append_nil]
 rintro ⟨a, b⟩
 rcases h with h | h
 ·exact h b
 ·exact a h
theorem cK_join {n i : Nat} {v : List Int} (hn : n ≤ 6) (hi : i < n) (h : repV n v i ≠ i) : cK n v i (repV n v i) = cK n v (i + 1) (repV n v i) ++ cK n v (i + 1) i := by
 rw [cK, cK, descP_step hi, if_pos ⟨fun e => h e.symm, rfl⟩, cK, descP_none hn h]; rfl
theorem cK_len {n m k : Nat} {v : List Int} : (cK n v m k).length ≤ n + 1 := by
 rw [cK, List.length_cons, descP, List.length_reverse]
 have := List.length_filter_le (fun i => decide (m ≤ i) && (i != k && repV n v i == k)) (List.range n)
 rw [List.length_range] at this
 omega
theorem cK_nodup {n m k : Nat} {v : List Int} : (cK n v m k).Nodup := by
 rw [cK, List.nodup_cons]
 refine ⟨fun h => (descP_mem.1 h).2.2.1 rfl, ?_⟩
 rw [descP]
 refine List.pairwise_reverse.2 (((List.nodup_range).filter _).imp fun h => h.symm)
theorem cK_perm {n m k : Nat} {v : List Int} (hm : m ≤ 1) (hk : k ∈ hdP n v n) : (cK n v m k).Perm (memP n v n k) := by
 have hk' := hdP_mem.1 hk
 refine (List.perm_ext_iff_of_nodup cK_nodup ((memP_sorted n v n k).imp fun h => by omega)).2 fun i => ?_
 rw [← mem_final hk'.1 hk'.2, cK]
 rcases (show m = 0 ∨ m = 1 by omega) with rfl | rfl
 ·rw [List.mem_cons, List.mem_cons, descP_mem, descP_mem]
  constructor
  ·rintro (h | ⟨a, b, c, d⟩)
   ·exact .inl h
   ·refine .inr ⟨a, ?_, c, d⟩
    have := repV_le n v i
    omega
  ·rintro (h | ⟨a, b, c, d⟩)
   ·exact .inl h
   ·exact .inr ⟨a, by omega, c, d⟩
 ·exact Iff.rfl
theorem repV_at {n i j : Nat} {v : List Int} (hj : j < i) (h : Alk n v j i) (hno : ∀ t, t < j → ¬ Alk n v t i) : repV n v i = j := by
 have h1 := repV_min hj h
 have h2 := repV_al n v i
 rcases Nat.lt_or_ge (repV n v i) j with h3 | h3
 ·exact absurd h2 (hno _ h3)
 ·omega
theorem repV_own {n i : Nat} {v : List Int} (hno : ∀ t, t < i → ¬ Alk n v t i) : repV n v i = i := by
 have h1 := repV_le n v i
 have h2 := repV_al n v i
 rcases Nat.lt_or_ge (repV n v i) i with h3 | h3
 ·exact absurd h2 (hno _ h3)
 ·omega
end Go.Shr
set_option maxRecDepth 100000
namespace Go.Shr
theorem many_sum2 (l : List Nat) : (many l).2 = l.sum := by
 induction l with
 | nil => rfl
 | cons k l ih => rw [many_cons, List.sum_cons, ih]
theorem succ_pow (k : Nat) : k + 1 ≤ 2 ^ k := by
 induction k with
 | zero => decide
 | succ k ih => rw [Nat.pow_succ]; omega
theorem many_pow (l : List Nat) : (many l).1 ≤ 2 ^ (many l).2 := by
 induction l with
 | nil => decide
 | cons k l ih =>
  rw [many_cons, Nat.pow_add]
  exact Nat.mul_le_mul (succ_pow k) ih
theorem cls_len (n : Nat) (v : List Int) : (clsV n v).length ≤ n := by
 rw [clsV_P, clsP, List.length_map, hdP]
 have := List.length_filter_le (fun j => repV n v j == j) (List.range n)
 rwa [List.length_range] at this
theorem cls_mem {n : Nat} {v : List Int} {l : List Nat} (h : l ∈ clsV n v) : ∃ j, j < n ∧ repV n v j = j ∧ l = memP n v n j := by
 rw [clsV_P, clsP, List.mem_map] at h
 obtain ⟨j, hj, rfl⟩ := h
 exact ⟨j, (hdP_mem.1 hj).1, (hdP_mem.1 hj).2, rfl⟩
theorem cls_each {n : Nat} {v : List Int} {l : List Nat} (h : l ∈ clsV n v) : 1 ≤ l.length ∧ l.length ≤ n := by
 obtain ⟨j, h1, h2, rfl⟩ := cls_mem h
 constructor
 ·have := (List.getElem?_eq_some_iff.1 (memP_head h1 h2)).1
  omega
 ·rw [memP]
  have := List.length_filter_le (fun i => repV n v i == j) (List.range n)
  rwa [List.length_range] at this
theorem cls_flat {n : Nat} (hn : n ≤ 6) (v : List Int) : (clsV n v).flatten.Perm (List.range n) := by
 refine (List.perm_ext_iff_of_nodup (clsV_nodup n v) List.nodup_range).2 fun i => ⟨fun h => List.mem_range.2 (clsV_lt h), fun h => ?_⟩
 have hi := List.mem_range.1 h
 rw [clsV_P, clsP, List.mem_flatten]
 refine ⟨_, List.mem_map.2 ⟨repV n v i, hdP_mem.2 ⟨Nat.lt_of_le_of_lt (repV_le n v i) hi, repV_idem hn hi⟩, rfl⟩, memP_mem.2 ⟨hi, rfl⟩⟩
theorem cls_sum {n : Nat} (hn : n ≤ 6) (v : List Int) : (many ((clsV n v).map List.length)).2 = n := by
 rw [many_sum2, ← List.length_flatten, (cls_flat hn v).length_eq, List.length_range]
theorem cls_cnt {n : Nat} (hn : n ≤ 6) (v : List Int) : (many ((clsV n v).map List.length)).1 ≤ 64 := by
 have h := many_pow ((clsV n v).map List.length)
 rw [cls_sum hn] at h
 exact Nat.le_trans h (Nat.pow_le_pow_right (n := 2) (by decide) hn)
theorem redV_len (cl : List (List Nat)) (v : List Int) : (redV cl v).length = (many (cl.map List.length)).1 := by simp [redV]
end Go.Shr
set_option maxRecDepth 100000
namespace Go.Shr
end Go.Shr
set_option maxRecDepth 100000
namespace Go.Shr
end Go.Shr
set_option maxRecDepth 100000
namespace Go.Shr
end Go.Shr
set_option maxRecDepth 100000
namespace Go.Shr
end Go.Shr
