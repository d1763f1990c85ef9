/-
  Contracts and plain lemmas. By an AI agent.
-/
import Derived.Lib.ItoaNum
import Derived.Lib.Strings
import Derived.Lib.Atoi
import Derived.Lib.AtoiAll
set_option linter.unusedSimpArgs false
set_option linter.unusedVariables false
set_option linter.unusedSectionVars false
namespace Go.Num
def num : List Int → Int
 | [] => 0
 | d :: ds => d + 10000 * num ds
def Dg (xs : List Int) : Prop := ∀ d ∈ xs, 0 ≤ d ∧ d < 10000
def trimL : List Int → List Int
 | [] => []
 | d :: ds => if d = 0 ∧ trimL ds = [] then [] else d :: trimL ds
def Nrm (xs : List Int) : Prop := Dg xs ∧ trimL xs = xs
theorem num_append (xs ys : List Int) : num (xs ++ ys) = num xs + 10000 ^ xs.length * num ys := by
 induction xs with
 | nil => simp [num]
 | cons d ds ih => simp only [List.cons_append, num, ih, List.length_cons, Int.pow_succ]; grind
theorem num_nonneg {xs : List Int} (h : Dg xs) : 0 ≤ num xs := by
 induction xs with
 | nil => simp [num]
 | cons d ds ih =>
  have h1 := h d (by simp)
  have h2 := ih fun x hx => h x (by simp [hx])
  simp only [num]; omega
theorem num_lt {xs : List Int} (h : Dg xs) : num xs < 10000 ^ xs.length := by
 induction xs with
 | nil => simp [num]
 | cons d ds ih =>
  have h1 := h d (by simp)
  have h2 := ih fun x hx => h x (by simp [hx])
  simp only [num, List.length_cons, Int.pow_succ]; omega
theorem num_trimL (xs : List Int) : num (trimL xs) = num xs := by
 induction xs with
 | nil => rfl
 | cons d ds ih =>
  simp only [trimL]
  split
  ·next h => rw [h.2] at ih; simp only [num] at ih ⊢; omega
  ·simp only [num, ih]
theorem trimL_trimL (xs : List Int) : trimL (trimL xs) = trimL xs := by
 induction xs with
 | nil => rfl
 | cons d ds ih =>
  simp only [trimL]
  split
  ·rfl
  ·next h => simp only [trimL, ih, h, ↓reduceIte]
theorem trimL_mem {xs : List Int} {d : Int} (h : d ∈ trimL xs) : d ∈ xs := by
 induction xs with
 | nil => exact h
 | cons x xs ih =>
  simp only [trimL] at h
  split at h
  ·simp at h
  ·rcases List.mem_cons.1 h with h | h
   ·simp [h]
   ·simp [ih h]
theorem Nrm.trimL {xs : List Int} (h : Dg xs) : Nrm (trimL xs) := ⟨fun d hd => h d (trimL_mem hd), trimL_trimL xs⟩
theorem trimL_snoc_zero (xs : List Int) : trimL (xs ++ [0]) = trimL xs := by
 induction xs with
 | nil => rfl
 | cons d ds ih => simp only [List.cons_append, trimL, ih]
theorem trimL_snoc {d : Int} (hd : d ≠ 0) (xs : List Int) : trimL (xs ++ [d]) = xs ++ [d] := by
 induction xs with
 | nil => simp [trimL, hd]
 | cons x xs ih => simp [trimL, ih]
theorem Nrm.tail {d : Int} {ds : List Int} (h : Nrm (d :: ds)) : Nrm ds := by
 refine ⟨fun x hx => h.1 x (by simp [hx]), ?_⟩
 have := h.2
 simp only [Num.trimL] at this
 split at this
 ·simp at this
 ·simpa using this
theorem Nrm.pos {xs : List Int} (h : Nrm xs) (hne : xs ≠ []) : 0 < num xs := by
 induction xs with
 | nil => exact absurd rfl hne
 | cons d ds ih =>
  have hd := h.1 d (by simp)
  by_cases hds : ds = []
  ·subst hds
   have := h.2
   simp only [Num.trimL] at this
   by_cases h0 : d = 0
   ·simp [h0] at this
   ·simp only [num]; omega
  ·have := ih h.tail hds
   simp only [num]; omega
theorem Nrm.eq {xs ys : List Int} (hx : Nrm xs) (hy : Nrm ys) (h : num xs = num ys) : xs = ys := by
 induction xs generalizing ys with
 | nil =>
  cases ys with
  | nil => rfl
  | cons y ys => have := hy.pos (by simp); rw [← h] at this; simp [num] at this
 | cons x xs ih =>
  cases ys with
  | nil => have := hx.pos (by simp); rw [h] at this; simp [num] at this
  | cons y ys =>
   have h1 := hx.1 x (by simp)
   have h2 := hy.1 y (by simp)
   simp only [num] at h
   have hxy : x = y := by omega
   have : num xs = num ys := by omega
   rw [hxy, ih hx.tail hy.tail this]
theorem Nrm.ge {xs : List Int} (h : Nrm xs) (hne : xs ≠ []) : 10000 ^ (xs.length - 1) ≤ num xs := by
 induction xs with
 | nil => exact absurd rfl hne
 | cons d ds ih =>
  have hd := h.1 d (by simp)
  by_cases hds : ds = []
  ·subst hds
   have := h.pos (by simp)
   simp only [num, List.length_cons, List.length_nil] at this ⊢
   simp at this ⊢; omega
  ·have := ih h.tail hds
   obtain ⟨x, xs, rfl⟩ := List.exists_cons_of_ne_nil hds
   simp only [List.length_cons, Nat.add_sub_cancel] at this ⊢
   rw [Int.pow_succ]
   simp only [num] at this ⊢; omega
theorem pow_mono {a b : Nat} (h : a ≤ b) : (10000 : Int) ^ a ≤ 10000 ^ b := by
 obtain ⟨k, rfl⟩ := Nat.exists_eq_add_of_le h
 induction k with
 | zero => simp
 | succ k ih =>
  have := ih (by omega)
  rw [← Nat.add_assoc, Int.pow_succ]
  have h0 : (0 : Int) < 10000 ^ (a + k) := Int.pow_pos (by decide)
  omega
theorem Nrm.len {xs : List Int} (h : Nrm xs) {k : Nat} (hk : num xs < 10000 ^ k) : xs.length ≤ k := by
 by_cases hne : xs = []
 ·subst hne; simp
 ·have h1 := h.ge hne
  refine Classical.byContradiction fun hc => ?_
  have := pow_mono (a := k) (b := xs.length - 1) (by omega)
  omega
def tot (D : Nat → Int) : Nat → Int
 | 0 => 0
 | n + 1 => tot D n + D n * 10000 ^ n
theorem tot_stay {D : Nat → Int} {n : Nat} (h : ∀ i, n ≤ i → D i = 0) {m : Nat} (hm : n ≤ m) : tot D m = tot D n := by
 obtain ⟨k, rfl⟩ := Nat.exists_eq_add_of_le hm
 induction k with
 | zero => rfl
 | succ k ih => rw [← Nat.add_assoc]; simp only [tot]; rw [ih (by omega), h (n + k) (by omega)]; omega
def dig (xs : List Int) (i : Nat) : Int := xs[i]?.getD 0
theorem tot_dig_aux (xs : List Int) (n : Nat) : tot (dig xs) n = num (xs.take n) := by
 induction n with
 | zero => simp [tot, num]
 | succ n ih =>
  simp only [tot, ih]
  rw [List.take_add_one, num_append]
  unfold dig
  by_cases h : n < xs.length
  ·rw [List.getElem?_eq_getElem h]
   simp only [Option.getD_some, Option.toList_some, num, List.length_take, Nat.min_eq_left (Nat.le_of_lt h)]
   rw [Int.mul_comm]; simp
  ·rw [List.getElem?_eq_none (by omega)]
   simp [num]
theorem tot_dig {xs : List Int} {n : Nat} (h : xs.length ≤ n) : tot (dig xs) n = num xs := by
 rw [tot_dig_aux, List.take_of_length_le h]
theorem tot_add (D E : Nat → Int) (n : Nat) : tot (fun i => D i + E i) n = tot D n + tot E n := by
 induction n with
 | zero => rfl
 | succ n ih => simp only [tot, ih, Int.add_mul]; omega
theorem tot_sub (D E : Nat → Int) (n : Nat) : tot (fun i => D i - E i) n = tot D n - tot E n := by
 induction n with
 | zero => rfl
 | succ n ih => simp only [tot, ih, Int.sub_mul]; omega
theorem tot_mul (D : Nat → Int) (k : Int) (n : Nat) : tot (fun i => D i * k) n = tot D n * k := by
 induction n with
 | zero => simp [tot]
 | succ n ih => simp only [tot, ih, Int.add_mul]; grind
theorem dig_bound {xs : List Int} (h : Dg xs) (i : Nat) : 0 ≤ dig xs i ∧ dig xs i < 10000 := by
 unfold dig
 cases hx : xs[i]? with
 | none => simp
 | some d => exact h d (List.mem_of_getElem? hx)
theorem dig_out {xs : List Int} {i : Nat} (h : xs.length ≤ i) : dig xs i = 0 := by unfold dig; rw [List.getElem?_eq_none h]; rfl
theorem num_split (xs : List Int) (i : Nat) (h : i ≤ xs.length) : num xs = num (xs.take i) + 10000 ^ i * num (xs.drop i) := by
 conv => lhs; rw [← List.take_append_drop i xs]
 rw [num_append, List.length_take, Nat.min_eq_left h]
theorem Dg.take {xs : List Int} (h : Dg xs) (i : Nat) : Dg (xs.take i) := fun d hd => h d (List.mem_of_mem_take hd)
theorem Dg.drop {xs : List Int} (h : Dg xs) (i : Nat) : Dg (xs.drop i) := fun d hd => h d (List.mem_of_mem_drop hd)
theorem num_lt_of {xs ys : List Int} (hx : Dg xs) (hy : Dg ys) {i : Nat} (h1 : i < xs.length) (h2 : i < ys.length) (hd : xs.drop (i + 1) = ys.drop (i + 1)) (hlt : xs[i] < ys[i]) : num xs < num ys := by
 rw [num_split xs i (by omega), num_split ys i (by omega), List.drop_eq_getElem_cons h1, List.drop_eq_getElem_cons h2, hd]
 simp only [num]
 have a1 := num_lt (hx.take i)
 have a2 := num_nonneg (hy.take i)
 rw [List.length_take, Nat.min_eq_left (by omega)] at a1
 have hp : (0 : Int) < 10000 ^ i := Int.pow_pos (by decide)
 obtain ⟨k, hk⟩ : ∃ k, ys[i] = xs[i] + 1 + k ∧ 0 ≤ k := ⟨ys[i] - xs[i] - 1, by omega, by omega⟩
 rw [hk.1]
 have : (10000 : Int) ^ i * (xs[i] + 1 + k + 10000 * num (ys.drop (i + 1))) = 10000 ^ i * (xs[i] + 10000 * num (ys.drop (i + 1))) + 10000 ^ i + 10000 ^ i * k := by grind
 rw [this]
 have := Int.mul_nonneg (Int.le_of_lt hp) hk.2
 omega
theorem Nrm.lt_of_len {xs ys : List Int} (hx : Nrm xs) (hy : Nrm ys) (h : xs.length < ys.length) : num xs < num ys := by
 have h1 := num_lt hx.1
 have h2 := hy.ge (by intro hc; subst hc; simp at h)
 have := pow_mono (a := xs.length) (b := ys.length - 1) (by omega)
 omega
theorem Nrm.cons {d : Int} {xs : List Int} (h : Nrm xs) (hne : xs ≠ []) (h0 : 0 ≤ d) (h1 : d < 10000) : Nrm (d :: xs) := by
 refine ⟨fun x hx => ?_, ?_⟩
 ·rcases List.mem_cons.1 hx with rfl | hx
  ·exact ⟨h0, h1⟩
  ·exact h.1 x hx
 ·simp only [Num.trimL, h.2]
  rw [if_neg fun hc => hne hc.2]
theorem num_drop_le {xs : List Int} (h : Dg xs) (i : Nat) : num (xs.drop i) ≤ num xs := by
 by_cases hi : i ≤ xs.length
 ·rw [num_split xs i hi]
  have h1 := num_nonneg (h.take i)
  have h2 := num_nonneg (h.drop i)
  have hp : (0 : Int) < 10000 ^ i := Int.pow_pos (by decide)
  have : num (xs.drop i) * 1 ≤ num (xs.drop i) * 10000 ^ i := Int.mul_le_mul_of_nonneg_left (by omega) h2
  rw [Int.mul_comm] at this
  rw [Int.mul_comm (10000 ^ i)]
  omega
 ·rw [List.drop_of_length_le (by omega)]; exact num_nonneg h
open Go.Lib
theorem snocInd {α : Type} {p : List α → Prop} (l : List α) (nil : p []) (append_singleton : ∀ l a, p l → p (l ++ [a])) : p l := by
 have h : ∀ m : List α, p m.reverse := by
  intro m
  induction m with
  | nil => exact nil
  | cons a m ih => rw [List.reverse_cons]; exact append_singleton _ _ ih
 simpa using h l.reverse
theorem head_app {α : Type} {l : List α} (m : List α) (h : l ≠ []) : (l ++ m).head? = l.head? := by
 cases l with
 | nil => exact absurd rfl h
 | cons a l => rfl
def isD (b : UInt8) : Prop := 48 ≤ b.toNat ∧ b.toNat ≤ 57
instance (b : UInt8) : Decidable (isD b) := by unfold isD; infer_instance
def dv (l : List UInt8) : Nat := l.foldl (fun a b => a * 10 + (b.toNat - 48)) 0
theorem dv_snoc (l : List UInt8) (b : UInt8) : dv (l ++ [b]) = dv l * 10 + (b.toNat - 48) := by simp [dv, List.foldl_append]
theorem dv_append (l m : List UInt8) : dv (l ++ m) = dv l * 10 ^ m.length + dv m := by
 induction m using snocInd with
 | nil => simp [dv]
 | append_singleton m b ih =>
  rw [← List.append_assoc, dv_snoc, ih, dv_snoc]
  simp only [List.length_append, List.length_cons, List.length_nil, Nat.pow_succ]
  grind
theorem snoc_cases {α : Type} (l : List α) : l = [] ∨ ∃ m b, l = m ++ [b] := by
 rcases List.eq_nil_or_concat l with h | ⟨m, b, h⟩
 ·exact .inl h
 ·exact .inr ⟨m, b, by simpa using h⟩
theorem toNat_digit {d : Nat} (h : d < 10) : (UInt8.ofNat (48 + d)).toNat = 48 + d := by
 simp only [UInt8.toNat_ofNat']; omega
theorem dec_lt {u : Nat} (h : u < 10) : decDigits u = [UInt8.ofNat (48 + u)] := by rw [decDigits, dif_pos h]
theorem dec_ge {u : Nat} (h : ¬ u < 10) : decDigits u = decDigits (u / 10) ++ [UInt8.ofNat (48 + u % 10)] := by rw [decDigits, dif_neg h]
theorem dec_ne (u : Nat) : decDigits u ≠ [] := by
 by_cases h : u < 10
 ·rw [dec_lt h]; simp
 ·rw [dec_ge h]; simp
theorem dec_isD (u : Nat) : ∀ b ∈ decDigits u, isD b := by
 induction u using Nat.strongRecOn with
 | _ u ih =>
  by_cases h : u < 10
  ·rw [dec_lt h]
   intro b hb
   simp only [List.mem_singleton] at hb
   subst hb
   unfold isD; rw [toNat_digit h]; omega
  ·rw [dec_ge h]
   intro b hb
   rcases List.mem_append.1 hb with hb | hb
   ·exact ih _ (by omega) b hb
   ·simp only [List.mem_singleton] at hb
    subst hb
    unfold isD; rw [toNat_digit (by omega)]; omega
theorem dv_dec (u : Nat) : dv (decDigits u) = u := by
 induction u using Nat.strongRecOn with
 | _ u ih =>
  by_cases h : u < 10
  ·rw [dec_lt h]
   simp only [dv, List.foldl_cons, List.foldl_nil, toNat_digit h]; omega
  ·rw [dec_ge h, dv_snoc, ih _ (by omega), toNat_digit (by omega)]; omega
theorem dv_lt {l : List UInt8} (h : ∀ b ∈ l, isD b) : dv l < 10 ^ l.length := by
 induction l using snocInd with
 | nil => simp [dv]
 | append_singleton l b ih =>
  have h1 := ih fun x hx => h x (by simp [hx])
  have h2 := h b (by simp)
  unfold isD at h2
  rw [dv_snoc]
  simp only [List.length_append, List.length_cons, List.length_nil, Nat.pow_succ]
  omega
theorem byte_ext {a b : UInt8} (h : a.toNat = b.toNat) : a = b := UInt8.toNat_inj.1 h
theorem dec_dv {l : List UInt8} (h : ∀ b ∈ l, isD b) (hne : l ≠ []) (hh : l.length = 1 ∨ l.head? ≠ some 48) : decDigits (dv l) = l := by
 induction l using snocInd with
 | nil => exact absurd rfl hne
 | append_singleton l b ih =>
  have h2 := h b (by simp)
  unfold isD at h2
  have hb : UInt8.ofNat (48 + (b.toNat - 48)) = b := byte_ext (by rw [toNat_digit (by omega)]; omega)
  rw [dv_snoc]
  by_cases hl : l = []
  ·subst hl
   rw [show dv [] = 0 from rfl, dec_lt (by omega)]
   simp only [Nat.zero_mul, Nat.zero_add, hb, List.nil_append]
  ·have hhl : l.head? ≠ some 48 := by
    rcases hh with hh | hh
    ·exact absurd (by simpa using hh) hl
    ·rw [head_app _ hl] at hh; exact hh
   have ih' := ih (fun x hx => h x (by simp [hx])) hl (.inr hhl)
   have hpos : 0 < dv l := by
    refine Nat.pos_of_ne_zero fun hc => ?_
    rw [hc, dec_lt (by decide)] at ih'
    rw [← ih'] at hhl
    exact hhl rfl
   rw [dec_ge (by omega), show (dv l * 10 + (b.toNat - 48)) / 10 = dv l from by omega, show (dv l * 10 + (b.toNat - 48)) % 10 = b.toNat - 48 from by omega, ih', hb]
theorem dec_head {u : Nat} (h : u ≠ 0) : (decDigits u).head? ≠ some 48 := by
 induction u using Nat.strongRecOn with
 | _ u ih =>
  by_cases h1 : u < 10
  ·rw [dec_lt h1]
   intro hc
   simp only [List.head?_cons, Option.some.injEq] at hc
   have := congrArg UInt8.toNat hc
   rw [toNat_digit h1] at this
   have h3 : (48 : UInt8).toNat = 48 := rfl
   omega
  ·rw [dec_ge h1, head_app _ (dec_ne _)]
   exact ih _ (by omega) (by omega)
theorem dec_len {u k : Nat} (hk : 1 ≤ k) : (decDigits u).length ≤ k ↔ u < 10 ^ k := by
 constructor
 ·intro h
  have h1 := dv_lt (dec_isD u)
  rw [dv_dec] at h1
  exact Nat.lt_of_lt_of_le h1 (Nat.pow_le_pow_right (by decide) h)
 ·intro h
  induction k generalizing u with
  | zero => omega
  | succ k ih =>
   by_cases h1 : u < 10
   ·rw [dec_lt h1]; simp
   ·rw [dec_ge h1]
    have hk : 1 ≤ k := by
     refine Nat.pos_of_ne_zero fun hc => ?_
     subst hc; simp at h; omega
    have := ih (u := u / 10) hk (by rw [Nat.pow_succ] at h; omega)
    simp; omega
theorem dec_pad {a d : Nat} (ha : 0 < a) {k : Nat} (hd : d < 10 ^ k) (hk : 1 ≤ k) : decDigits (a * 10 ^ k + d) = decDigits a ++ (List.replicate (k - (decDigits d).length) 48 ++ decDigits d) := by
 have hl := (dec_len hk).2 hd
 rw [← dec_dv (l := decDigits a ++ (List.replicate (k - (decDigits d).length) 48 ++ decDigits d))]
 ·congr 1
  have h0 : ∀ n, dv (List.replicate n 48) = 0 := by
   intro n
   induction n with
   | zero => rfl
   | succ n ih => rw [List.replicate_succ', dv_snoc, ih]; rfl
  rw [dv_append, dv_dec, dv_append, h0, dv_dec]
  simp only [List.length_append, List.length_replicate]
  rw [show k - (decDigits d).length + (decDigits d).length = k from by omega]
  omega
 ·intro b hb
  rcases List.mem_append.1 hb with hb | hb
  ·exact dec_isD a b hb
  ·rcases List.mem_append.1 hb with hb | hb
   ·rw [List.mem_replicate] at hb
    rw [hb.2]; decide
   ·exact dec_isD d b hb
 ·simp [dec_ne]
 ·right
  rw [head_app _ (dec_ne _)]
  exact dec_head (by omega)
@[irreducible] def MaxI : Nat := 10 ^ 200
def validB (s : List UInt8) : Bool :=
 decide ((trimPrefix s [45] ≠ [] ∧ (trimPrefix s [45]).length ≤ 200 ∧ ∀ b ∈ trimPrefix s [45], isD b) ∧ (s = [48] ∨ (trimPrefix s [45]).head? ≠ some 48))
theorem trim_neg (l : List UInt8) : trimPrefix (45 :: l) [45] = l := by simp [trimPrefix, hasPrefix]
theorem trim_pos {l : List UInt8} (h : l.head? ≠ some 45) : trimPrefix l [45] = l := by
 cases l with
 | nil => simp [trimPrefix, hasPrefix]
 | cons a l =>
  have : a ≠ 45 := by simpa using h
  simp [trimPrefix, hasPrefix, this.symm]
theorem dec_head45 (u : Nat) : (decDigits u).head? ≠ some 45 := by
 intro hc
 have := dec_isD u 45 (List.mem_of_mem_head? hc)
 revert this; decide
theorem trim_itoa (z : Int) : trimPrefix (itoa z) [45] = decDigits z.natAbs := by
 unfold itoa
 split
 ·exact trim_neg _
 ·rw [trim_pos (dec_head45 _)]
  congr 1; omega
theorem valid_itoa (z : Int) : validB (itoa z) = decide (z.natAbs < MaxI) := by
 unfold validB
 rw [trim_itoa]
 rw [decide_eq_decide]
 have h1 := dec_ne z.natAbs
 have h2 := dec_isD z.natAbs
 have h3 : (decDigits z.natAbs).length ≤ 200 ↔ z.natAbs < MaxI := by unfold MaxI; exact dec_len (by decide)
 have h4 : itoa z = [48] ∨ (decDigits z.natAbs).head? ≠ some 48 := by
  by_cases hz : z = 0
  ·left; subst hz; unfold itoa; rw [if_neg (by decide)]; exact dec_lt (by decide)
  ·right; exact dec_head (by omega)
 constructor
 ·exact fun h => h3.1 h.1.2.1
 ·exact fun h => ⟨⟨h1, h3.2 h, h2⟩, h4⟩
theorem valid_ex {s : List UInt8} (h : validB s = true) : ∃ z : Int, z.natAbs < MaxI ∧ s = itoa z := by
 have h' := h
 unfold validB at h
 obtain ⟨⟨h1, h2, h3⟩, h4⟩ := of_decide_eq_true h
 by_cases hs : s.head? = some 45
 ·obtain ⟨l, rfl⟩ : ∃ l, s = 45 :: l := by
   cases s with
   | nil => simp at hs
   | cons a l => simp at hs; exact ⟨l, by rw [hs]⟩
  rw [trim_neg] at h1 h2 h3 h4
  have h5 : l.head? ≠ some 48 := by
   rcases h4 with h4 | h4
   ·simp at h4
   ·exact h4
  have h6 := dec_dv h3 h1 (.inr h5)
  have h7 : 0 < dv l := by
   refine Nat.pos_of_ne_zero fun hc => ?_
   rw [hc, dec_lt (by decide)] at h6
   rw [← h6] at h5; exact h5 rfl
  have h8 : 45 :: l = itoa (-(dv l : Int)) := by
   unfold itoa
   rw [if_pos (by omega), show (-(dv l : Int)).natAbs = dv l from by omega, h6]
  refine ⟨_, ?_, h8⟩
  rw [h8, valid_itoa] at h'
  exact of_decide_eq_true h'
 ·rw [trim_pos hs] at h1 h2 h3 h4
  have h6 := dec_dv h3 h1 (by
   rcases h4 with h4 | h4
   ·left; rw [h4]; rfl
   ·exact .inr h4)
  have h8 : s = itoa (dv s : Int) := by
   unfold itoa
   rw [if_neg (by omega), Int.toNat_natCast, h6]
  refine ⟨_, ?_, h8⟩
  rw [h8, valid_itoa] at h'
  exact of_decide_eq_true h'
theorem itoa_inj {x y : Int} (h : itoa x = itoa y) : x = y := by
 have h1 := congrArg (fun l => dv (trimPrefix l [45])) h
 simp only [trim_itoa, dv_dec] at h1
 have h2 := congrArg List.head? h
 by_cases hx : x < 0
 ·by_cases hy : y < 0
  ·omega
  ·unfold itoa at h2
   rw [if_pos hx, if_neg hy] at h2
   exact absurd h2.symm (dec_head45 _)
 ·by_cases hy : y < 0
  ·unfold itoa at h2
   rw [if_neg hx, if_pos hy] at h2
   exact absurd h2 (dec_head45 _)
  ·omega
theorem decFrom_dv (l : List UInt8) (h : ∀ b ∈ l, isD b) (acc : Nat) : decFrom acc l = some (acc * 10 ^ l.length + dv l) := by
 induction l generalizing acc with
 | nil => simp [decFrom, dv]
 | cons b r ih =>
  have hb := h b (by simp)
  have hdv : digitVal b = some (b.toNat - 48) := by unfold digitVal; unfold isD at hb; rw [if_pos hb]
  rw [decFrom, hdv]
  simp only
  rw [ih (fun x hx => h x (by simp [hx]))]
  have : dv (b :: r) = dv [b] * 10 ^ r.length + dv r := dv_append [b] r
  rw [this]
  have h1 : dv [b] = b.toNat - 48 := by simp [dv]
  rw [h1]
  simp only [List.length_cons, Nat.pow_succ]
  congr 1
  grind
theorem atoi_dv {l : List UInt8} (h : ∀ b ∈ l, isD b) (hne : l ≠ []) : atoi l = some (dv l : Int) := by
 cases l with
 | nil => exact absurd rfl hne
 | cons b r =>
  have hb := h b (by simp)
  unfold isD at hb
  have h1 : (b == 45) = false := by
   rw [beq_eq_false_iff_ne]; rintro rfl; revert hb; decide
  have h2 : (b == 43) = false := by
   rw [beq_eq_false_iff_ne]; rintro rfl; revert hb; decide
  unfold atoi
  simp only [h1, h2]
  unfold decNat
  have := decFrom_dv (b :: r) h 0
  simp [this]
theorem dv_seg {D : List UInt8} {k f : Nat} (hk : k ≤ D.length) (hf : f ≤ k) : dv (D.drop f) = dv ((D.take k).drop f) * 10 ^ (D.length - k) + dv (D.drop k) := by
 have : D.drop f = (D.take k).drop f ++ D.drop k := by
  have h1 : D = D.take k ++ D.drop k := (List.take_append_drop k D).symm
  conv => lhs; rw [h1]
  rw [List.drop_append_of_le_length (by simp; omega)]
 rw [this, dv_append]
 simp
theorem num_snoc (xs : List Int) (n : Int) : num (xs ++ [n]) = num xs + 10000 ^ xs.length * n := by
 rw [num_append]; simp [num]
theorem dv_cons (b : UInt8) (r : List UInt8) : dv (b :: r) = (b.toNat - 48) * 10 ^ r.length + dv r := by
 have : dv (b :: r) = dv [b] * 10 ^ r.length + dv r := dv_append [b] r
 rw [this]; simp [dv]
theorem parse_dv (l : List UInt8) (h : ∀ b ∈ l, isD b) (acc : Nat) (ha : acc < 18446744073709551616) :
 parseUint10 acc l = if acc * 10 ^ l.length + dv l < 18446744073709551616 then .ok (acc * 10 ^ l.length + dv l) else .range := by
 induction l generalizing acc with
 | nil => simp [parseUint10, dv, ha]
 | cons b r ih =>
  have hb := h b (by simp)
  have hb' := hb
  unfold isD at hb'
  have hp : 1 ≤ 10 ^ r.length := Nat.one_le_pow _ _ (by decide)
  have hv : acc * 10 ^ (b :: r).length + dv (b :: r) = (acc * 10 + (b.toNat - 48)) * 10 ^ r.length + dv r := by
   rw [dv_cons]; simp only [List.length_cons, Nat.pow_succ]; grind
  have hge : acc * 10 + (b.toNat - 48) ≤ (acc * 10 + (b.toNat - 48)) * 10 ^ r.length := Nat.le_mul_of_pos_right _ hp
  rw [hv, parseUint10, if_pos hb']
  split
  ·rw [if_neg (by omega)]
  ·split
   ·rw [if_neg (by omega)]
   ·exact ih (fun x hx => h x (by simp [hx])) _ (by omega)
theorem atoiAll_itoa (z : Int) : atoiAll (itoa z) = if -9223372036854775808 ≤ z ∧ z ≤ 9223372036854775807 then .ok z else .range := by
 have hD := dec_isD z.natAbs
 have hne := dec_ne z.natAbs
 have hpm : parseMag (decDigits z.natAbs) = if z.natAbs < 18446744073709551616 then .ok z.natAbs else .range := by
  unfold parseMag
  rw [if_neg hne, parse_dv _ hD 0 (by decide), dv_dec]
  simp
 by_cases hz : z < 0
 ·have hi : itoa z = 45 :: decDigits z.natAbs := by unfold itoa; rw [if_pos hz]
  rw [hi]
  unfold atoiAll
  simp only [show (45 : UInt8).toNat = 45 from rfl, or_true, if_true, hpm]
  by_cases h1 : z.natAbs < 18446744073709551616
  ·rw [if_pos h1]
   simp only [not_true, false_and, if_false, true_and, if_true]
   by_cases h2 : 9223372036854775808 < z.natAbs
   ·rw [if_pos h2, if_neg (by omega)]
   ·rw [if_neg h2, if_pos (by omega)]
    congr 1; omega
  ·rw [if_neg h1]
   simp only
   rw [if_neg (by omega)]
 ·have hi : itoa z = decDigits z.natAbs := by unfold itoa; rw [if_neg hz, show z.toNat = z.natAbs from by omega]
  rw [hi]
  obtain ⟨c, r, hcr⟩ := List.exists_cons_of_ne_nil hne
  have hc := hD c (by rw [hcr]; simp)
  unfold isD at hc
  rw [hcr] at hpm ⊢
  unfold atoiAll
  simp only
  rw [if_neg (by omega : ¬ (c.toNat = 43 ∨ c.toNat = 45)), hpm]
  have h45 : ¬ c.toNat = 45 := by omega
  by_cases h1 : z.natAbs < 18446744073709551616
  ·rw [if_pos h1]
   simp only [h45, not_false_eq_true, true_and, false_and, if_false]
   by_cases h2 : 9223372036854775808 ≤ z.natAbs
   ·rw [if_pos h2, if_neg (by omega)]
   ·rw [if_neg h2, if_pos (by omega)]
    congr 1; omega
  ·rw [if_neg h1]
   simp only
   rw [if_neg (by omega)]
structure Fr (p q : Int) : Prop where
 hp : p.natAbs < MaxI
 q0 : 0 < q
 hq : q.natAbs < MaxI
 hg : Int.gcd p q = 1
def sgnTo (d n : Int) : Int := if d < 0 then -n else n
def loN (n d : Int) : Int := sgnTo d n / (Int.gcd n d : Int)
def loD (n d : Int) : Int := sgnTo d d / (Int.gcd n d : Int)
theorem sgnTo_abs (d n : Int) : (sgnTo d n).natAbs = n.natAbs := by unfold sgnTo; split <;> omega
theorem sgnTo_pos {d : Int} (h : d ≠ 0) : 0 < sgnTo d d := by unfold sgnTo; split <;> omega
theorem sgnTo_gcd (n d : Int) : Int.gcd (sgnTo d n) (sgnTo d d) = Int.gcd n d := by
 unfold sgnTo; split
 ·rw [Int.gcd_neg, Int.neg_gcd]
 ·rfl
theorem gcd_dvdN (n d : Int) : (Int.gcd n d : Int) ∣ sgnTo d n := by
 have := Int.gcd_dvd_left (sgnTo d n) (sgnTo d d); rwa [sgnTo_gcd] at this
theorem gcd_dvdD (n d : Int) : (Int.gcd n d : Int) ∣ sgnTo d d := by
 have := Int.gcd_dvd_right (sgnTo d n) (sgnTo d d); rwa [sgnTo_gcd] at this
theorem gcd_pos' {n d : Int} (hd : d ≠ 0) : (0 : Int) < (Int.gcd n d : Int) := by
 have := Int.gcd_pos_iff.2 (.inr hd : n ≠ 0 ∨ d ≠ 0); omega
theorem loN_mul (n d : Int) : loN n d * (Int.gcd n d : Int) = sgnTo d n := Int.ediv_mul_cancel (gcd_dvdN n d)
theorem loD_mul (n d : Int) : loD n d * (Int.gcd n d : Int) = sgnTo d d := Int.ediv_mul_cancel (gcd_dvdD n d)
theorem lo_cross {n d : Int} (hd : d ≠ 0) : loN n d * d = n * loD n d := by
 have hg := gcd_pos' (n := n) hd
 have e1 := loN_mul n d
 have e2 := loD_mul n d
 have key : sgnTo d n * d = n * sgnTo d d := by unfold sgnTo; split <;> simp [Int.neg_mul, Int.mul_neg]
 rw [← e1, ← e2] at key
 refine Int.eq_of_mul_eq_mul_right (a := (Int.gcd n d : Int)) (by omega) ?_
 rw [Int.mul_right_comm, key, Int.mul_assoc]
theorem loD_pos {n d : Int} (hd : d ≠ 0) : 0 < loD n d := by
 have hg := gcd_pos' (n := n) hd
 have e2 := loD_mul n d
 have h := sgnTo_pos hd
 rw [← e2] at h
 exact Int.pos_of_mul_pos_left h hg
theorem abs_le_of_mul {a g s : Int} (hg : 0 < g) (h : a * g = s) : a.natAbs ≤ s.natAbs := by
 rw [← h, Int.natAbs_mul]
 exact Nat.le_mul_of_pos_right _ (by omega)
theorem lo_gcd {n d : Int} (hd : d ≠ 0) : Int.gcd (loN n d) (loD n d) = 1 := by
 have hg := gcd_pos' (n := n) hd
 have h := sgnTo_gcd n d
 rw [← loN_mul n d, ← loD_mul n d, Int.gcd_mul_right] at h
 simp only [Int.natAbs_natCast] at h
 exact Nat.eq_of_mul_eq_mul_right (by omega : 0 < Int.gcd n d) (by rw [h]; simp)
theorem lo_fr {n d : Int} (hn : n.natAbs < MaxI) (hd : d.natAbs < MaxI) (h0 : d ≠ 0) : Fr (loN n d) (loD n d) := by
 have hg := gcd_pos' (n := n) h0
 have h1 := abs_le_of_mul hg (loN_mul n d)
 have h2 := abs_le_of_mul hg (loD_mul n d)
 rw [sgnTo_abs] at h1 h2
 exact ⟨by omega, loD_pos h0, by omega, lo_gcd h0⟩
theorem dvd_of_cross {p q p' q' : Int} (g : Int.gcd p q = 1) (h : p * q' = p' * q) : q ∣ q' := by
 have h1 : q.natAbs ∣ p.natAbs * q'.natAbs := by
  rw [← Int.natAbs_mul, h, Int.natAbs_mul]; exact Nat.dvd_mul_left _ _
 have h2 : Nat.Coprime q.natAbs p.natAbs := by
  show Nat.gcd _ _ = 1
  rw [Nat.gcd_comm]; exact g
 exact Int.natAbs_dvd_natAbs.1 (h2.dvd_of_dvd_mul_left h1)
theorem fr_uniq {p q p' q' : Int} (hq : 0 < q) (hq' : 0 < q') (g : Int.gcd p q = 1) (g' : Int.gcd p' q' = 1) (h : p * q' = p' * q) : p = p' ∧ q = q' := by
 have e : q = q' := Int.dvd_antisymm (by omega) (by omega) (dvd_of_cross g h) (dvd_of_cross g' h.symm)
 subst e
 exact ⟨Int.eq_of_mul_eq_mul_right (by omega) h, rfl⟩
theorem lo_of_fr {p q : Int} (hq : 0 < q) (g : Int.gcd p q = 1) : loN p q = p ∧ loD p q = q := by
 unfold loN loD sgnTo
 rw [if_neg (by omega), if_neg (by omega), g]
 simp
theorem lo_eq {n d n' d' : Int} (hd : d ≠ 0) (hd' : d' ≠ 0) (h : n * d' = n' * d) : loN n d = loN n' d' ∧ loD n d = loD n' d' := by
 refine fr_uniq (loD_pos hd) (loD_pos hd') (lo_gcd hd) (lo_gcd hd') ?_
 have e1 := lo_cross (n := n) hd
 have e2 := lo_cross (n := n') hd'
 have : (loN n d * loD n' d') * (d * d') = (loN n' d' * loD n d) * (d * d') := by
  calc (loN n d * loD n' d') * (d * d') = (loN n d * d) * (loD n' d' * d') := by grind
   _ = (n * loD n d) * (loD n' d' * d') := by rw [e1]
   _ = (n * d') * loD n d * loD n' d' := by grind
   _ = (n' * d) * loD n d * loD n' d' := by rw [h]
   _ = (n' * loD n' d') * (loD n d * d) := by grind
   _ = (loN n' d' * d') * (loD n d * d) := by rw [e2]
   _ = _ := by grind
 exact Int.eq_of_mul_eq_mul_right (Int.mul_ne_zero hd hd') this
theorem Fr.lo {p q n d : Int} (a : Fr p q) (hd : d ≠ 0) (h : p * d = n * q) : loN n d = p ∧ loD n d = q := by
 have := lo_eq (n := n) (d := d) (n' := p) (d' := q) hd (by have := a.q0; omega) h.symm
 obtain ⟨h1, h2⟩ := lo_of_fr a.q0 a.hg
 rw [h1, h2] at this
 exact this
theorem maxI1 : 1 < MaxI := by unfold MaxI; decide
theorem Fr.ofInt {z : Int} (h : z.natAbs < MaxI) : Fr z 1 := ⟨h, by decide, maxI1, Int.gcd_one⟩
theorem Fr.inv {p q : Int} (h : Fr p q) (h0 : 0 < p) : Fr q p := ⟨h.hq, h0, h.hp, by rw [Int.gcd_comm]; exact h.hg⟩
theorem Fr.neg {p q : Int} (h : Fr p q) : Fr (-p) q := ⟨by rw [Int.natAbs_neg]; exact h.hp, h.q0, h.hq, by rw [Int.neg_gcd]; exact h.hg⟩
theorem lt_of_div_lt {p q p' q' : Int} (hq : 0 < q) (hq' : 0 < q') (h : p / q < p' / q') : p * q' < p' * q := by
 have h1 := Int.mul_ediv_add_emod p q
 have h2 := Int.emod_lt_of_pos p hq
 have h3 := Int.mul_ediv_add_emod p' q'
 have h4 := Int.emod_nonneg p' (show q' ≠ 0 by omega)
 have a1 : p < q * (p / q + 1) := by rw [Int.mul_add, Int.mul_one]; omega
 have a2 : q' * (p' / q') ≤ p' := by omega
 have b1 : p * q' < q * (p / q + 1) * q' := Int.mul_lt_mul_of_pos_right a1 hq'
 have b2 : q' * (p' / q') * q ≤ p' * q := Int.mul_le_mul_of_nonneg_right a2 (Int.le_of_lt hq)
 have b3 : q * (p / q + 1) * q' ≤ q' * (p' / q') * q := by
  have : q * q' * (p / q + 1) ≤ q * q' * (p' / q') := Int.mul_le_mul_of_nonneg_left (by omega) (Int.le_of_lt (Int.mul_pos hq hq'))
  calc q * (p / q + 1) * q' = q * q' * (p / q + 1) := by grind
   _ ≤ q * q' * (p' / q') := this
   _ = _ := by grind
 omega
theorem cross_rem {p q p' q' : Int} (h : p / q = p' / q') : p * q' - p' * q = (p % q) * q' - (p' % q') * q := by
 have h1 := Int.mul_ediv_add_emod p q
 have h3 := Int.mul_ediv_add_emod p' q'
 rw [← h] at h3
 generalize p / q = u at h1 h3
 generalize p % q = r at h1 ⊢
 generalize p' % q' = s at h3 ⊢
 subst h1; subst h3
 grind
theorem den_ne (x : Rat) : (x.den : Rat) ≠ 0 := by
 have := x.den_nz
 exact_mod_cast this
theorem num_den (x : Rat) : (x.num : Rat) / (x.den : Rat) = x := by
 have h := Rat.num_divInt_den x
 rw [Rat.divInt_eq_div] at h
 exact_mod_cast h
theorem rat_gcd (x : Rat) : Int.gcd x.num (x.den : Int) = 1 := x.reduced
theorem int_ne {d : Int} (h : d ≠ 0) : (d : Rat) ≠ 0 := by exact_mod_cast h
theorem rat_cross {a b c d : Int} (hb : b ≠ 0) (hd : d ≠ 0) (h : (a : Rat) / b = (c : Rat) / d) : a * d = c * b := by
 have h1 := int_ne hb
 have h2 := int_ne hd
 have : (a : Rat) * d = c * b := by
  rw [Rat.div_def, Rat.div_def] at h
  grind
 exact_mod_cast this
theorem den_pos (x : Rat) : (0 : Int) < (x.den : Int) := by have := x.den_nz; omega
theorem num_den' (x : Rat) : (x.num : Rat) / ((x.den : Int) : Rat) = x := by have := num_den x; exact_mod_cast this
theorem lo_rat {n d : Int} (hd : d ≠ 0) : ((n : Rat) / d).num = loN n d ∧ ((((n : Rat) / d).den : Nat) : Int) = loD n d := by
 have hq := den_pos ((n : Rat) / d)
 refine fr_uniq hq (loD_pos hd) (rat_gcd _) (lo_gcd hd) ?_
 have h1 : (((n : Rat) / d).num : Rat) / ((((n : Rat) / d).den : Int) : Rat) = (n : Rat) / d := num_den' _
 have h2 := rat_cross (by omega) hd h1
 have h3 := lo_cross (n := n) hd
 have h4 := loD_pos (n := n) hd
 refine Int.eq_of_mul_eq_mul_right (a := d) hd ?_
 calc ((n : Rat) / d).num * loD n d * d = (((n : Rat) / d).num * d) * loD n d := by grind
  _ = (n * (((n : Rat) / d).den : Int)) * loD n d := by rw [h2]
  _ = (n * loD n d) * (((n : Rat) / d).den : Int) := by grind
  _ = _ := by rw [← h3]; grind
theorem Fr.rat {p q : Int} (h : Fr p q) : ((p : Rat) / q).num = p ∧ ((((p : Rat) / q).den : Nat) : Int) = q := by
 have h0 := h.q0
 obtain ⟨h1, h2⟩ := lo_rat (n := p) (d := q) (by omega)
 obtain ⟨h3, h4⟩ := lo_of_fr h.q0 h.hg
 rw [h3] at h1; rw [h4] at h2
 exact ⟨h1, h2⟩
structure RB (x : Rat) : Prop where
 n : x.num.natAbs < MaxI
 d : ((x.den : Nat) : Int).natAbs < MaxI
theorem RB.fr {x : Rat} (h : RB x) : Fr x.num x.den := ⟨h.n, den_pos x, h.d, rat_gcd x⟩
theorem Fr.rb {p q : Int} (h : Fr p q) : RB ((p : Rat) / q) := by
 obtain ⟨h1, h2⟩ := h.rat
 exact ⟨by rw [h1]; exact h.hp, by rw [h2]; exact h.hq⟩
theorem rb_div {n d : Int} (hn : n.natAbs < MaxI) (hd : d.natAbs < MaxI) (h0 : d ≠ 0) : RB ((n : Rat) / d) := by
 obtain ⟨h1, h2⟩ := lo_rat (n := n) h0
 have h := lo_fr hn hd h0
 exact ⟨by rw [h1]; exact h.hp, by rw [h2]; exact h.hq⟩
theorem rat_ext {x y : Rat} (h1 : x.num = y.num) (h2 : x.den = y.den) : x = y := by
 rw [← num_den x, ← num_den y, h1, h2]
theorem q_add (x y : Rat) : (((x.num * (y.den : Int) + y.num * (x.den : Int)) : Int) : Rat) / (((x.den : Int) * (y.den : Int) : Int) : Rat) = x + y := by
 have h1 := den_ne x
 have h2 := den_ne y
 have e1 := num_den x
 have e2 := num_den y
 push_cast
 generalize (x.num : Rat) = a at *
 generalize (y.num : Rat) = b at *
 generalize (x.den : Rat) = c at *
 generalize (y.den : Rat) = d at *
 subst e1; subst e2
 grind
theorem q_sub (x y : Rat) : (((x.num * (y.den : Int) - y.num * (x.den : Int)) : Int) : Rat) / (((x.den : Int) * (y.den : Int) : Int) : Rat) = x - y := by
 have h1 := den_ne x
 have h2 := den_ne y
 have e1 := num_den x
 have e2 := num_den y
 push_cast
 generalize (x.num : Rat) = a at *
 generalize (y.num : Rat) = b at *
 generalize (x.den : Rat) = c at *
 generalize (y.den : Rat) = d at *
 subst e1; subst e2
 grind
theorem q_mul (x y : Rat) : (((x.num * y.num) : Int) : Rat) / (((x.den : Int) * (y.den : Int) : Int) : Rat) = x * y := by
 have h1 := den_ne x
 have h2 := den_ne y
 have e1 := num_den x
 have e2 := num_den y
 push_cast
 generalize (x.num : Rat) = a at *
 generalize (y.num : Rat) = b at *
 generalize (x.den : Rat) = c at *
 generalize (y.den : Rat) = d at *
 subst e1; subst e2
 grind
theorem q_lt (x y : Rat) : x < y ↔ x.num * (y.den : Int) < y.num * (x.den : Int) := Rat.lt_iff x y
theorem q_eq (x y : Rat) : x = y ↔ x.num * (y.den : Int) = y.num * (x.den : Int) := by
 constructor
 ·rintro rfl; rfl
 ·intro h
  obtain ⟨h1, h2⟩ := fr_uniq (den_pos x) (den_pos y) (rat_gcd x) (rat_gcd y) h
  exact rat_ext h1 (by omega)
theorem num_le {n d : Int} (hd : d ≠ 0) : ((n : Rat) / d).num.natAbs ≤ n.natAbs := by
 rw [(lo_rat (n := n) hd).1, ← sgnTo_abs d n]
 exact abs_le_of_mul (gcd_pos' (n := n) hd) (loN_mul n d)
theorem den_le {n d : Int} (hd : d ≠ 0) : ((((n : Rat) / d).den : Nat) : Int).natAbs ≤ d.natAbs := by
 rw [(lo_rat (n := n) hd).2, ← sgnTo_abs d d]
 exact abs_le_of_mul (gcd_pos' (n := n) hd) (loD_mul n d)
theorem dd_ne (x y : Rat) : (x.den : Int) * (y.den : Int) ≠ 0 := Int.mul_ne_zero (Int.ne_of_gt (den_pos x)) (Int.ne_of_gt (den_pos y))
theorem den_int (z : Int) : ((z : Int) : Rat).den = 1 := rfl
theorem RB.int {z : Int} (h : z.natAbs < MaxI) : RB (z : Rat) := ⟨h, by rw [den_int]; exact maxI1⟩
end Go.Num
namespace Go.Num
abbrev El := Rat × Rat
def sumR (f : El → Rat) : List El → Rat
 | [] => 0
 | e :: l => f e + sumR f l
def kept : Nat → List El → List El
 | _, [] => []
 | k, e :: l => if k % 2 = 1 then e :: kept (k / 2) l else kept (k / 2) l
def wt : Nat → List El → Rat
 | _, [] => 1
 | k, e :: l => (if k % 2 = 1 then e.2 else 1 - e.2) * wt (k / 2) l
def sumN : Nat → (Nat → Rat) → Rat
 | 0, _ => 0
 | n + 1, F => sumN n F + F n
def DR (D M : Nat) (x : Rat) : Prop := ∃ n : Int, x = (n : Rat) / ((D : Int) : Rat) ∧ n.natAbs ≤ M * D
theorem dr_ne {D : Nat} (h : 0 < D) : (((D : Nat) : Int) : Rat) ≠ 0 := int_ne (by omega)
section
variable {D E M N : Nat} {x y : Rat}
theorem DR.add (hx : DR D M x) (hy : DR D N y) (hD : 0 < D) : DR D (M + N) (x + y) := by
 obtain ⟨n, rfl, hn⟩ := hx
 obtain ⟨m, rfl, hm⟩ := hy
 have h := dr_ne hD
 refine ⟨n + m, by rw [Rat.intCast_add]; grind, ?_⟩
 rw [Nat.add_mul]; omega
theorem DR.sub (hx : DR D M x) (hy : DR D N y) (hD : 0 < D) : DR D (M + N) (x - y) := by
 obtain ⟨n, rfl, hn⟩ := hx
 obtain ⟨m, rfl, hm⟩ := hy
 have h := dr_ne hD
 refine ⟨n - m, by rw [Rat.intCast_sub]; grind, ?_⟩
 rw [Nat.add_mul]; omega
theorem DR.mul (hx : DR D M x) (hy : DR E N y) (hD : 0 < D) (hE : 0 < E) : DR (D * E) (M * N) (x * y) := by
 obtain ⟨n, rfl, hn⟩ := hx
 obtain ⟨m, rfl, hm⟩ := hy
 have h := dr_ne hD
 have h' := dr_ne hE
 refine ⟨n * m, ?_, ?_⟩
 ·rw [Rat.intCast_mul, Int.natCast_mul, Rat.intCast_mul]; grind
 ·rw [Int.natAbs_mul, show M * N * (D * E) = (M * D) * (N * E) by rw [Nat.mul_assoc, Nat.mul_assoc]; congr 1; rw [← Nat.mul_assoc, ← Nat.mul_assoc, Nat.mul_comm N D]]
  exact Nat.mul_le_mul hn hm
theorem DR.mono (hx : DR D M x) (hD : 0 < D) (hE : 0 < E) (h : D ∣ E) (hM : M ≤ N) : DR E N x := by
 obtain ⟨n, rfl, hn⟩ := hx
 obtain ⟨c, rfl⟩ := h
 have hc : 0 < c := Nat.pos_of_ne_zero (fun h => by rw [h] at hE; omega)
 have h := dr_ne hD
 have h' := dr_ne hc
 refine ⟨n * (c : Int), ?_, ?_⟩
 ·rw [Rat.intCast_mul, Int.natCast_mul, Rat.intCast_mul]; grind
 ·rw [Int.natAbs_mul, Int.natAbs_natCast, ← Nat.mul_assoc]
  exact Nat.mul_le_mul (Nat.le_trans hn (Nat.mul_le_mul_right D hM)) (Nat.le_refl c)
theorem DR.zero : DR D M 0 := ⟨0, by grind, by simp⟩
theorem DR.num (hx : DR D M x) (hD : 0 < D) : x.num.natAbs ≤ M * D ∧ ((x.den : Nat) : Int).natAbs ≤ D := by
 obtain ⟨n, rfl, hn⟩ := hx
 have h : ((D : Nat) : Int) ≠ 0 := by omega
 exact ⟨Nat.le_trans (num_le h) hn, by have := den_le (n := n) h; omega⟩
theorem DR.of {n : Int} {d : Int} (h0 : 0 < d) (hd : d.natAbs ∣ D) (hD : 0 < D) (hn : n.natAbs ≤ M) : DR D M ((n : Rat) / (d : Rat)) := by
 have : DR d.natAbs M ((n : Rat) / (d : Rat)) := ⟨n, by rw [Int.natAbs_of_nonneg (by omega)], Nat.le_trans hn (Nat.le_mul_of_pos_right _ (by omega))⟩
 exact this.mono (by omega) hD hd (Nat.le_refl _)
end
theorem DR.sumR {D M : Nat} (hD : 0 < D) {f : El → Rat} : ∀ {l : List El}, (∀ e ∈ l, DR D M (f e)) → DR D (l.length * M) (sumR f l)
 | [], _ => .zero
 | e :: l, h => by
  have h1 := h e (by simp)
  have h2 := DR.sumR hD (f := f) (l := l) (fun x hx => h x (by simp [hx]))
  have := h1.add h2 hD
  rw [List.length_cons, Nat.add_mul, Nat.one_mul, Nat.add_comm]
  exact this
theorem DR.sumN {D M : Nat} (hD : 0 < D) {F : Nat → Rat} : ∀ {n : Nat}, (∀ k, k < n → DR D M (F k)) → DR D (n * M) (sumN n F)
 | 0, _ => .zero
 | n + 1, h => by
  rw [Nat.add_mul, Nat.one_mul]
  exact (DR.sumN hD (fun k hk => h k (by omega))).add (h n (by omega)) hD
theorem DR.one {D : Nat} (hD : 0 < D) : DR D 1 1 := by
 refine ⟨(D : Int), ?_, by simp⟩
 have := dr_ne hD
 grind
theorem DR.wt {D : Nat} (hD : 0 < D) : ∀ {l : List El} (k : Nat), (∀ e ∈ l, DR D 1 e.2 ∧ DR D 1 (1 - e.2)) → DR (D ^ l.length) 1 (wt k l)
 | [], k, _ => .one (by rw [List.length_nil, Nat.pow_zero]; decide)
 | e :: l, k, h => by
  have h1 := h e (by simp)
  have h2 := DR.wt hD (l := l) (k / 2) (fun x hx => h x (by simp [hx]))
  rw [List.length_cons, Nat.pow_succ, Nat.mul_comm]
  have hp : 0 < D ^ l.length := Nat.pow_pos hD
  unfold Num.wt
  split
  ·exact h1.1.mul h2 hD hp
  ·exact h1.2.mul h2 hD hp
end Go.Num
set_option maxRecDepth 100000
namespace Go.Smp
abbrev Gp := Int × Int
def sF : List Gp → List Bool → Int
 | g :: l, c :: f => (if c then g.1 else 0) + sF l f
 | _, _ => 0
def sD : List Gp → List Bool → Int
 | g :: l, c :: f => (if c then 0 else g.1 * g.2) + sD l f
 | _, _ => 0
def dF : List Gp → List Bool → List Bool → Int
 | g :: l, c :: f, d :: h => (if !c && d then g.1 else 0) + dF l f h
 | _, _, _ => 0
def dW : List Gp → List Bool → List Bool → Int
 | g :: l, c :: f, d :: h => (if !c && d then g.1 * g.2 else 0) + dW l f h
 | _, _, _ => 0
def Gok (l : List Gp) : Prop := ∀ g ∈ l, 0 ≤ g.1 ∧ 1 ≤ g.2
theorem Gok.tail {g : Gp} {l : List Gp} (h : Gok (g :: l)) : Gok l := fun x hx => h x (List.mem_cons_of_mem _ hx)
def Le : List Bool → List Bool → Prop
 | c :: f, d :: h => (c = true → d = true) ∧ Le f h
 | [], [] => True
 | _, _ => False
theorem Le.refl : ∀ f, Le f f
 | [] => trivial
 | _ :: f => ⟨id, Le.refl f⟩
theorem Le.len : ∀ {f h : List Bool}, Le f h → f.length = h.length
 | [], [], _ => rfl
 | _ :: f, _ :: h, ⟨_, k⟩ => by rw [List.length_cons, List.length_cons, k.len]
 | [], _ :: _, k => k.elim
 | _ :: _, [], k => k.elim
theorem sF_diff : ∀ {l : List Gp} {f h : List Bool}, Le f h → sF l h = sF l f + dF l f h
 | [], _, _, _ => by simp [sF, dF]
 | g :: l, [], [], _ => by simp [sF, dF]
 | g :: l, c :: f, d :: h, ⟨k1, k2⟩ => by
  have := sF_diff (l := l) k2
  rw [sF, sF, dF, this]
  cases c <;> cases d <;> simp_all <;> omega
 | g :: l, [], _ :: _, k => k.elim
 | g :: l, _ :: _, [], k => k.elim
theorem sD_diff : ∀ {l : List Gp} {f h : List Bool}, Le f h → sD l f = sD l h + dW l f h
 | [], _, _, _ => by simp [sD, dW]
 | g :: l, [], [], _ => by simp [sD, dW]
 | g :: l, c :: f, d :: h, ⟨k1, k2⟩ => by
  have := sD_diff (l := l) k2
  rw [sD, sD, dW, this]
  cases c <;> cases d <;> simp_all <;> omega
 | g :: l, [], _ :: _, k => k.elim
 | g :: l, _ :: _, [], k => k.elim
theorem sF_nonneg : ∀ {l : List Gp} {f : List Bool}, Gok l → 0 ≤ sF l f
 | [], _, _ => by simp [sF]
 | g :: l, [], _ => by simp [sF]
 | g :: l, c :: f, h => by
  have := sF_nonneg (f := f) h.tail
  have hg := h g List.mem_cons_self
  rw [sF]; cases c <;> simp <;> omega
theorem sD_nonneg : ∀ {l : List Gp} {f : List Bool}, Gok l → 0 ≤ sD l f
 | [], _, _ => by simp [sD]
 | g :: l, [], _ => by simp [sD]
 | g :: l, c :: f, h => by
  have := sD_nonneg (f := f) h.tail
  have hg := h g List.mem_cons_self
  have := Int.mul_nonneg hg.1 (show 0 ≤ g.2 by omega)
  rw [sD]; cases c <;> simp <;> omega
theorem dF_nonneg : ∀ {l : List Gp} {f h : List Bool}, Gok l → 0 ≤ dF l f h
 | [], _, _, _ => by simp [dF]
 | g :: l, [], _, _ => by simp [dF]
 | g :: l, _ :: _, [], _ => by simp [dF]
 | g :: l, c :: f, d :: h, k => by
  have := dF_nonneg (f := f) (h := h) k.tail
  have hg := k g List.mem_cons_self
  rw [dF]; cases c <;> cases d <;> simp <;> omega
theorem dF_le : ∀ {l : List Gp} {f h : List Bool}, Gok l → dF l f h ≤ dW l f h
 | [], _, _, _ => by simp [dF, dW]
 | g :: l, [], _, _ => by simp [dF, dW]
 | g :: l, _ :: _, [], _ => by simp [dF, dW]
 | g :: l, c :: f, d :: h, k => by
  have := dF_le (f := f) (h := h) k.tail
  have hg := k g List.mem_cons_self
  have hm : g.1 * 1 ≤ g.1 * g.2 := Int.mul_le_mul_of_nonneg_left hg.2 hg.1
  rw [dF, dW]; cases c <;> cases d <;> simp <;> omega
theorem diff_ge {x y : Int} : ∀ {l : List Gp} {f h : List Bool}, Gok l → (∀ (i : Nat) g, l[i]? = some g → f[i]? = some false → h[i]? = some true → y ≤ x * g.2) → dF l f h * y ≤ x * dW l f h
 | [], _, _, _, _ => by simp [dF, dW]
 | g :: l, [], _, _, _ => by simp [dF, dW]
 | g :: l, _ :: _, [], _, _ => by simp [dF, dW]
 | g :: l, c :: f, d :: h, k, hw => by
  have ih := diff_ge (x := x) (y := y) (f := f) (h := h) k.tail fun i g' h1 h2 h3 => hw (i + 1) g' (by simpa using h1) (by simpa using h2) (by simpa using h3)
  have hg := k g List.mem_cons_self
  rw [dF, dW, Int.add_mul, Int.mul_add]
  by_cases c1 : c = false ∧ d = true
  ·obtain ⟨rfl, rfl⟩ := c1
   have h1 := hw 0 g rfl rfl rfl
   have h2 := Int.mul_le_mul_of_nonneg_left h1 hg.1
   have e : g.1 * (x * g.2) = x * (g.1 * g.2) := by rw [Int.mul_left_comm]
   simp only [Bool.not_false, Bool.and_self, if_true]
   omega
  ·have e : (!c && d) = false := by
    cases c <;> cases d <;> simp_all
   rw [e]
   simp only [Bool.false_eq_true, if_false, Int.zero_mul, Int.mul_zero]
   omega
theorem diff_le {y : Int} : ∀ {l : List Gp} {f h : List Bool}, Gok l → (∀ (i : Nat) g, l[i]? = some g → f[i]? = some false → h[i]? = some true → g.2 ≤ y) → dW l f h ≤ dF l f h * y
 | [], _, _, _, _ => by simp [dF, dW]
 | g :: l, [], _, _, _ => by simp [dF, dW]
 | g :: l, _ :: _, [], _, _ => by simp [dF, dW]
 | g :: l, c :: f, d :: h, k, hw => by
  have ih := diff_le (y := y) (f := f) (h := h) k.tail fun i g' h1 h2 h3 => hw (i + 1) g' (by simpa using h1) (by simpa using h2) (by simpa using h3)
  have hg := k g List.mem_cons_self
  rw [dF, dW, Int.add_mul]
  by_cases c1 : c = false ∧ d = true
  ·obtain ⟨rfl, rfl⟩ := c1
   have h1 := hw 0 g rfl rfl rfl
   have h2 := Int.mul_le_mul_of_nonneg_left h1 hg.1
   simp only [Bool.not_false, Bool.and_self, if_true]
   omega
  ·have e : (!c && d) = false := by
    cases c <;> cases d <;> simp_all
   rw [e]
   simp only [Bool.false_eq_true, if_false, Int.zero_mul]
   omega
def num (b : Int) (l : List Gp) (f : List Bool) : Int := b - sF l f
structure Inv (b : Int) (l : List Gp) (f : List Bool) : Prop where
 len : f.length = l.length
 n0 : 0 ≤ num b l f
 w : ∀ (i : Nat) g, l[i]? = some g → f[i]? = some true → sD l f ≤ num b l f * g.2
theorem inv0 {b : Int} {l : List Gp} (hb : 0 ≤ b) : Inv b l (List.replicate l.length false) := by
 have h0 : ∀ l : List Gp, sF l (List.replicate l.length false) = 0 := by
  intro l
  induction l with
  | nil => rfl
  | cons g l ih => rw [List.length_cons, List.replicate_succ, sF, ih]; rfl
 refine ⟨List.length_replicate, by unfold num; rw [h0]; omega, fun i g _ h => ?_⟩
 rw [List.getElem?_replicate] at h
 split at h <;> simp at h
def pass (b : Int) (l : List Gp) (f : List Bool) : List Bool := List.zipWith (fun g c => c || decide (sD l f ≤ num b l f * g.2)) l f
theorem pass_get {b : Int} {l : List Gp} {f : List Bool} {i : Nat} {g : Gp} {c : Bool} (h1 : l[i]? = some g) (h2 : f[i]? = some c) : (pass b l f)[i]? = some (c || decide (sD l f ≤ num b l f * g.2)) := by
 unfold pass
 rw [List.getElem?_zipWith, h1, h2]
theorem le_zip {q : Gp → Bool} : ∀ {l : List Gp} {f : List Bool}, f.length = l.length → Le f (List.zipWith (fun g c => c || q g) l f)
 | [], [], _ => trivial
 | g :: l, c :: f, h => ⟨fun hc => by rw [hc]; rfl, le_zip (by simpa using h)⟩
 | [], _ :: _, h => by simp at h
 | _ :: _, [], h => by simp at h
theorem pass_le {b : Int} {l : List Gp} {f : List Bool} (h : f.length = l.length) : Le f (pass b l f) := le_zip h
theorem mul_pos_le {a b c : Int} (hc : 0 < c) (h : a * c ≤ b * c) : a ≤ b := by
 rcases Int.lt_or_le b a with h1 | h1
 ·have := Int.mul_lt_mul_of_pos_right h1 hc
  omega
 ·exact h1
theorem Inv.pass {b : Int} {l : List Gp} {f : List Bool} (hl : Gok l) (h : Inv b l f) : Inv b l (pass b l f) := by
 obtain ⟨x, hx⟩ : ∃ x, num b l f = x := ⟨_, rfl⟩
 obtain ⟨y, hy⟩ : ∃ y, sD l f = y := ⟨_, rfl⟩
 have hlen := h.len
 have hle := pass_le (b := b) hlen
 have e1 := sF_diff (l := l) hle
 have e2 := sD_diff (l := l) hle
 have hy0 : 0 ≤ y := by rw [← hy]; exact sD_nonneg hl
 have hd0 := dF_nonneg (f := f) (h := Smp.pass b l f) hl
 have hdn := sD_nonneg (f := Smp.pass b l f) hl
 have key := diff_ge (x := x) (y := y) (f := f) (h := Smp.pass b l f) hl fun i g h1 h2 h3 => by
  rw [pass_get h1 h2, hx, hy] at h3
  simpa using h3
 have hn0 := h.n0
 rw [hx] at hn0
 have hpl : (Smp.pass b l f).length = l.length := by rw [← hle.len]; exact hlen
 obtain ⟨d, hd⟩ : ∃ d, dF l f (Smp.pass b l f) = d := ⟨_, rfl⟩
 obtain ⟨v, hv⟩ : ∃ v, dW l f (Smp.pass b l f) = v := ⟨_, rfl⟩
 rw [hd] at e1 hd0
 rw [hd, hv] at key
 rw [hv, hy] at e2
 have en : num b l (Smp.pass b l f) = x - d := by unfold num at hx ⊢; omega
 have es : sD l (Smp.pass b l f) = y - v := by omega
 rw [es] at hdn
 have hn : 0 ≤ x - d := by
  by_cases hyz : y = 0
  ·have hv0 : v = 0 ∨ v < 0 := by omega
   have := dF_le (f := f) (h := Smp.pass b l f) hl
   omega
  ·have h1 : x * v ≤ x * y := Int.mul_le_mul_of_nonneg_left (by omega) hn0
   have : d ≤ x := mul_pos_le (c := y) (by omega) (by omega)
   omega
 refine ⟨hpl, by rw [en]; exact hn, fun i g h1 h2 => ?_⟩
 rw [en, es]
 have hwon : y ≤ x * g.2 := by
  have hf : ∃ c, f[i]? = some c := by
   have := (List.getElem?_eq_some_iff.1 h1).1
   exact ⟨_, List.getElem?_eq_getElem (by omega)⟩
  obtain ⟨c, hc⟩ := hf
  rw [pass_get h1 hc, hx, hy] at h2
  cases c
  ·simpa using h2
  ·have := h.w i g h1 hc
   rw [hx, hy] at this
   exact this
 have hg := hl g (List.mem_of_getElem? h1)
 by_cases hyz : y = 0
 ·have : 0 ≤ (x - d) * g.2 := Int.mul_nonneg hn (by omega)
  have hvd : v = 0 ∨ 0 < v ∨ v < 0 := by omega
  have : 0 ≤ y - v := hdn
  have hv1 : d ≤ v := by
   have := dF_le (f := f) (h := Smp.pass b l f) hl
   omega
  omega
 ·
  have hr : x * (y - v) ≤ (x - d) * y := by rw [Int.mul_sub, Int.sub_mul]; omega
  refine mul_pos_le (c := y) (by omega) ?_
  have h3 : (y - v) * y ≤ (y - v) * (x * g.2) := Int.mul_le_mul_of_nonneg_left hwon hdn
  have h4 : x * (y - v) * g.2 ≤ (x - d) * y * g.2 := Int.mul_le_mul_of_nonneg_right hr (by omega)
  have e5 : (y - v) * (x * g.2) = x * (y - v) * g.2 := by rw [← Int.mul_assoc, Int.mul_comm (y - v) x]
  have e6 : (x - d) * y * g.2 = (x - d) * g.2 * y := by rw [Int.mul_assoc, Int.mul_comm y, ← Int.mul_assoc]
  omega
end Go.Smp
set_option maxRecDepth 100000
namespace Go.Smp
open Go.Num (sumN)
structure Stb (b : Int) (l : List Gp) (f : List Bool) : Prop where
 inv : Inv b l f
 no : ∀ (i : Nat) g, l[i]? = some g → f[i]? = some false → num b l f * g.2 < sD l f
theorem stb_of {b : Int} {l : List Gp} {f : List Bool} (h : Inv b l f) (e : pass b l f = f) : Stb b l f := ⟨h, fun i g h1 h2 => by
 have h3 := pass_get (b := b) h1 h2
 rw [e, h2] at h3
 have := Option.some.inj h3
 simp only [Bool.false_or] at this
 have := of_decide_eq_false this.symm
 omega⟩
theorem Stb.get {b : Int} {l : List Gp} {f : List Bool} (h : Stb b l f) {i : Nat} {g : Gp} (hg : l[i]? = some g) : f[i]? = some (decide (sD l f ≤ num b l f * g.2)) := by
 have hl := (List.getElem?_eq_some_iff.1 hg).1
 have hf : f[i]? = some (f[i]'(by have := h.inv.len; omega)) := List.getElem?_eq_getElem _
 cases hc : f[i]'(by have := h.inv.len; omega)
 ·rw [hc] at hf
  rw [hf, decide_eq_false (by have := h.no i g hg hf; omega)]
 ·rw [hc] at hf
  rw [hf, decide_eq_true (h.inv.w i g hg hf)]
theorem le_of {f h : List Bool} (hl : f.length = h.length) (k : ∀ i : Nat, f[i]? = some true → h[i]? = some true) : Le f h := by
 induction f generalizing h with
 | nil => cases h with
  | nil => trivial
  | cons d h => simp at hl
 | cons c f ih => cases h with
  | nil => simp at hl
  | cons d h =>
   refine ⟨fun hc => ?_, ih (by simpa using hl) fun i hi => ?_⟩
   ·have := k 0 (by rw [hc]; rfl)
    simpa using this
   ·have := k (i + 1) (by simpa using hi)
    simpa using this
theorem le_get {f h : List Bool} (k : Le f h) : ∀ i : Nat, f[i]? = some true → h[i]? = some true := by
 induction f generalizing h with
 | nil => intro i hi; simp at hi
 | cons c f ih => cases h with
  | nil => exact k.elim
  | cons d h =>
   intro i hi
   cases i with
   | zero =>
    have : c = true := by simpa using hi
    have := k.1 this
    simp [this]
   | succ i => simpa using ih k.2 i (by simpa using hi)
theorem dF_pos_ex : ∀ {l : List Gp} {f h : List Bool}, Gok l → f.length = l.length → h.length = l.length → (∃ i : Nat, f[i]? = some false ∧ h[i]? = some true) → ∃ (i : Nat) (g : Gp), l[i]? = some g ∧ f[i]? = some false ∧ h[i]? = some true ∧ ∀ (j : Nat) g', l[j]? = some g' → f[j]? = some false → h[j]? = some true → g'.2 ≤ g.2
 | [], f, h, _, hf, hh, ⟨i, h1, _⟩ => by
  have := (List.getElem?_eq_some_iff.1 h1).1
  simp at hf; subst hf; simp at this
 | g :: l, [], _, _, hf, _, _ => by simp at hf
 | g :: l, _ :: _, [], _, _, hh, _ => by simp at hh
 | g :: l, c :: f, d :: h, k, hf, hh, ⟨i, h1, h2⟩ => by
  by_cases hr : ∃ i : Nat, f[i]? = some false ∧ h[i]? = some true
  ·obtain ⟨j, g', a1, a2, a3, a4⟩ := dF_pos_ex k.tail (by simpa using hf) (by simpa using hh) hr
   by_cases hc : c = false ∧ d = true ∧ g'.2 ≤ g.2
   ·refine ⟨0, g, rfl, by simp [hc.1], by simp [hc.2.1], fun j' x b1 b2 b3 => ?_⟩
    cases j' with
    | zero => have : g = x := by simpa using b1
              subst this; exact Int.le_refl _
    | succ j' => exact Int.le_trans (a4 j' x (by simpa using b1) (by simpa using b2) (by simpa using b3)) hc.2.2
   ·refine ⟨j + 1, g', by simpa using a1, by simpa using a2, by simpa using a3, fun j' x b1 b2 b3 => ?_⟩
    cases j' with
    | zero =>
     have e1 : g = x := by simpa using b1
     have e2 : c = false := by simpa using b2
     have e3 : d = true := by simpa using b3
     subst e1
     by_cases hw : g'.2 ≤ g.2
     ·exact absurd ⟨e2, e3, hw⟩ hc
     ·omega
    | succ j' => exact a4 j' x (by simpa using b1) (by simpa using b2) (by simpa using b3)
  ·have h0 : i = 0 := by
    cases i with
    | zero => rfl
    | succ i => exact absurd ⟨i, by simpa using h1, by simpa using h2⟩ hr
   subst h0
   refine ⟨0, g, rfl, h1, h2, fun j' x b1 b2 b3 => ?_⟩
   cases j' with
   | zero => have : g = x := by simpa using b1
             subst this; exact Int.le_refl _
   | succ j' => exact absurd ⟨j', by simpa using b2, by simpa using b3⟩ hr
theorem stb_le {b b' : Int} {l : List Gp} {f h : List Bool} (hl : Gok l) (hf : Stb b l f) (hh : Stb b' l h) (hb : b ≤ b') : Le f h := by
 have lf := hf.inv.len
 have lh := hh.inv.len
 by_cases hsub : ∀ i : Nat, f[i]? = some true → h[i]? = some true
 ·exact le_of (by omega) hsub
 ·exfalso
  obtain ⟨i, hi⟩ := Classical.not_forall.1 hsub
  have hi1 : f[i]? = some true := Classical.not_not.1 fun hc => hi fun hx => absurd hx hc
  have hi2 : h[i]? ≠ some true := fun hc => hi fun _ => hc
  have hil : i < l.length := by have := (List.getElem?_eq_some_iff.1 hi1).1; omega
  have hi3 : h[i]? = some false := by
   have : h[i]? = some (h[i]'(by omega)) := List.getElem?_eq_getElem _
   cases hc : h[i]'(by omega)
   ·rw [hc] at this; exact this
   ·rw [hc] at this; exact absurd this hi2
  have hw : ∀ j : Nat, h[j]? = some true → f[j]? = some true := fun j hj => by
   have hjl : j < l.length := by have := (List.getElem?_eq_some_iff.1 hj).1; omega
   have gj := List.getElem?_eq_getElem hjl
   have gi := List.getElem?_eq_getElem hil
   have a1 := hf.inv.w i _ gi hi1
   have a2 := hh.no i _ gi hi3
   have a3 := hh.inv.w j _ gj hj
   rw [hf.get gj]
   congr 1
   refine decide_eq_true ?_
   have hn0 := hf.inv.n0
   have hm0 := hh.inv.n0
   have hwj : l[i].2 ≤ l[j].2 := by
    rcases Int.lt_or_le l[j].2 l[i].2 with h1 | h1
    ·have := Int.mul_le_mul_of_nonneg_left (Int.le_of_lt h1) hm0
     omega
    ·exact h1
   have := Int.mul_le_mul_of_nonneg_left hwj hn0
   omega
  have hle : Le h f := le_of (by omega) hw
  obtain ⟨j, g, h1, h2, h3, h4⟩ := dF_pos_ex hl lh lf ⟨i, hi3, hi1⟩
  have e1 := sF_diff (l := l) hle
  have e2 := sD_diff (l := l) hle
  have a1 := hf.inv.w j g h1 h3
  have a2 := hh.no j g h1 h2
  have a3 := diff_le (y := g.2) (f := h) (h := f) hl h4
  have hn : num b l f + dF l h f ≤ num b' l h := by unfold num; omega
  have hg := hl g (List.mem_of_getElem? h1)
  have := Int.mul_le_mul_of_nonneg_right hn (show 0 ≤ g.2 by omega)
  rw [Int.add_mul] at this
  omega
theorem stb_eq {b : Int} {l : List Gp} {f h : List Bool} (hl : Gok l) (hf : Stb b l f) (hh : Stb b l h) : f = h := by
 have a := stb_le hl hf hh (Int.le_refl _)
 have c := stb_le hl hh hf (Int.le_refl _)
 apply List.ext_getElem?
 intro i
 by_cases hi : i < f.length
 ·have hi2 : i < h.length := by rw [← a.len]; exact hi
  have e1 : f[i]? = some f[i] := List.getElem?_eq_getElem hi
  have e2 : h[i]? = some h[i] := List.getElem?_eq_getElem hi2
  cases c1 : f[i]
  ·cases c2 : h[i]
   ·rw [e1, e2, c1, c2]
   ·rw [c2] at e2
    have := le_get c i e2
    rw [e1, c1] at this; simp at this
  ·rw [c1] at e1
   rw [e1, le_get a i e1]
 ·have := a.len
  rw [List.getElem?_eq_none (by omega), List.getElem?_eq_none (by omega)]
theorem stb_lev {b b' : Int} {l : List Gp} {f h : List Bool} (hl : Gok l) (hf : Stb b l f) (hh : Stb b' l h) (hb : b ≤ b') : num b l f * sD l h ≤ num b' l h * sD l f := by
 have hle := stb_le hl hf hh hb
 have e1 := sF_diff (l := l) hle
 have e2 := sD_diff (l := l) hle
 have a3 := diff_ge (x := num b' l h) (y := sD l h) (f := f) (h := h) hl fun i g h1 h2 h3 => hh.inv.w i g h1 h3
 have hn : num b l f ≤ num b' l h + dF l f h := by unfold num; omega
 have hd := sD_nonneg (f := h) hl
 have := Int.mul_le_mul_of_nonneg_right hn hd
 rw [Int.add_mul] at this
 rw [e2, Int.mul_add]
 omega
def kD (b : Int) (l : List Gp) (f : List Bool) (g : Gp) (c : Bool) : Int := if c then 1 else (sD l f + num b l f * g.2 - 1) / (num b l f * g.2)
def kOk (b : Int) (l : List Gp) (f : List Bool) (g : Gp) (c : Bool) : Bool := c || decide (0 < num b l f ∧ sD l f ≤ 1000 * num b l f * g.2)
def kAll (b : Int) (l : List Gp) (f : List Bool) : List Int := List.zipWith (kD b l f) l f
def okAll (b : Int) (l : List Gp) (f : List Bool) : Bool := (List.zipWith (kOk b l f) l f).all id
theorem ceil_le {a c a' c' : Int} (hc : 0 < c) (hc' : 0 < c') (ha' : 0 ≤ a') (h : a * c' ≤ a' * c) : (a + c - 1) / c ≤ (a' + c' - 1) / c' := by
 have e1 := Int.emod_add_mul_ediv (a' + c' - 1) c'
 have e2 := Int.emod_lt_of_pos (a' + c' - 1) hc'
 have e3 := Int.emod_nonneg (a' + c' - 1) (show c' ≠ 0 by omega)
 obtain ⟨q, hq⟩ : ∃ q, (a' + c' - 1) / c' = q := ⟨_, rfl⟩
 rw [hq] at e1
 have h1 : a' ≤ c' * q := by omega
 rw [hq]
 have h2 : a * c' ≤ c' * q * c := Int.le_trans h (Int.mul_le_mul_of_nonneg_right h1 (by omega))
 have h3 : a ≤ q * c := mul_pos_le hc' (by
  have : c' * q * c = q * c * c' := by rw [Int.mul_comm c' q, Int.mul_assoc, Int.mul_comm c' c, ← Int.mul_assoc]
  omega)
 have h4 : (a + c - 1) / c < q + 1 := Int.ediv_lt_of_lt_mul hc (by rw [Int.add_mul]; omega)
 omega
theorem ceil_eq {a c a' c' : Int} (hc : 0 < c) (hc' : 0 < c') (ha : 0 ≤ a) (ha' : 0 ≤ a') (h : a * c' = a' * c) : (a + c - 1) / c = (a' + c' - 1) / c' :=
 Int.le_antisymm (ceil_le hc hc' ha' (by omega)) (ceil_le hc' hc ha (by omega))
end Go.Smp
set_option maxRecDepth 100000
namespace Go.Smp
def Fit (x y : Int) : List Gp → List Bool → List Int → Prop
 | g :: l, c :: f, k :: ks => (0 < k ∧ (c = true → k = 1) ∧ (c = false → y ≤ k * (x * g.2) ∧ k * (x * g.2) < 2 * y)) ∧ Fit x y l f ks
 | [], [], [] => True
 | _, _, _ => False
def mQ : List Gp → List Int → Rat
 | g :: l, k :: ks => (g.1 : Rat) / (k : Rat) + mQ l ks
 | _, _ => 0
theorem div_mul' {a k : Rat} (hk : 0 < k) : a / k * k = a := by
 have e1 := Rat.div_def a k
 have e2 := Rat.mul_inv_cancel k (by grind)
 grind
theorem le_mul_cancel {a b k : Rat} (hk : 0 < k) (h : a * k ≤ b * k) : a ≤ b := Rat.le_of_mul_le_mul_right h hk
theorem cast_le {a b : Int} (h : a ≤ b) : (a : Rat) ≤ (b : Rat) := Rat.intCast_le_intCast.2 h
theorem cast_lt {a b : Int} (h : a < b) : (a : Rat) < (b : Rat) := by exact_mod_cast h
theorem term_le {n k x y w : Int} (hn : 0 ≤ n) (hk : 0 < k) (h : y ≤ k * (x * w)) : (n : Rat) / (k : Rat) * (y : Rat) ≤ (x : Rat) * ((n * w : Int) : Rat) := by
 have hk' : (0 : Rat) < (k : Rat) := cast_lt hk
 refine le_mul_cancel hk' ?_
 have e := div_mul' (a := (n : Rat)) hk'
 have h1 := cast_le (Int.mul_le_mul_of_nonneg_left h hn)
 rw [Rat.intCast_mul, Rat.intCast_mul, Rat.intCast_mul, Rat.intCast_mul] at h1
 rw [Rat.intCast_mul]
 generalize (n : Rat) / (k : Rat) = q at e ⊢
 have e3 : q * (y : Rat) * (k : Rat) = (n : Rat) * (y : Rat) := by rw [← e]; grind
 have e4 : (x : Rat) * ((n : Rat) * (w : Rat)) * (k : Rat) = (n : Rat) * ((k : Rat) * ((x : Rat) * (w : Rat))) := by grind
 rw [e3, e4]
 exact h1
theorem term_ge {n k x y w : Int} (hn : 0 ≤ n) (hk : 0 < k) (h : k * (x * w) ≤ 2 * y) : (x : Rat) * ((n * w : Int) : Rat) ≤ 2 * ((n : Rat) / (k : Rat) * (y : Rat)) := by
 have hk' : (0 : Rat) < (k : Rat) := cast_lt hk
 refine le_mul_cancel hk' ?_
 have e := div_mul' (a := (n : Rat)) hk'
 have h1 := cast_le (Int.mul_le_mul_of_nonneg_left h hn)
 have e2 : ((2 : Int) : Rat) = 2 := rfl
 rw [Rat.intCast_mul, Rat.intCast_mul, Rat.intCast_mul, Rat.intCast_mul, Rat.intCast_mul, e2] at h1
 rw [Rat.intCast_mul]
 generalize (n : Rat) / (k : Rat) = q at e ⊢
 have e3 : 2 * (q * (y : Rat)) * (k : Rat) = (n : Rat) * (2 * (y : Rat)) := by rw [← e]; grind
 have e4 : (x : Rat) * ((n : Rat) * (w : Rat)) * (k : Rat) = (n : Rat) * ((k : Rat) * ((x : Rat) * (w : Rat))) := by grind
 rw [e3, e4]
 exact h1
theorem term_gt {n k x y w : Int} (hn : 0 < n) (hk : 0 < k) (h : k * (x * w) < 2 * y) : (x : Rat) * ((n * w : Int) : Rat) < 2 * ((n : Rat) / (k : Rat) * (y : Rat)) := by
 have hk' : (0 : Rat) < (k : Rat) := cast_lt hk
 refine Rat.not_le.1 fun hc => ?_
 have hc := Rat.mul_le_mul_of_nonneg_right hc (show 0 ≤ (k : Rat) by grind)
 have e := div_mul' (a := (n : Rat)) hk'
 have h1 := cast_lt (Int.mul_lt_mul_of_pos_left h hn)
 have e2 : ((2 : Int) : Rat) = 2 := rfl
 rw [Rat.intCast_mul, Rat.intCast_mul, Rat.intCast_mul, Rat.intCast_mul, Rat.intCast_mul, e2] at h1
 rw [Rat.intCast_mul] at hc
 generalize (n : Rat) / (k : Rat) = q at e hc
 have e3 : 2 * (q * (y : Rat)) * (k : Rat) = (n : Rat) * (2 * (y : Rat)) := by rw [← e]; grind
 have e4 : (x : Rat) * ((n : Rat) * (w : Rat)) * (k : Rat) = (n : Rat) * ((k : Rat) * ((x : Rat) * (w : Rat))) := by grind
 rw [e3, e4] at hc
 exact absurd h1 (Rat.not_lt.2 hc)
theorem mQ_le {x y : Int} (hy : 0 ≤ y) : ∀ {l : List Gp} {f : List Bool} {ks : List Int}, Gok l → Fit x y l f ks → mQ l ks * (y : Rat) ≤ (sF l f : Rat) * (y : Rat) + (x : Rat) * (sD l f : Rat)
 | [], [], [], _, _ => by
  show (0 : Rat) * _ ≤ ((0 : Int) : Rat) * _ + _ * ((0 : Int) : Rat)
  have : ((0 : Int) : Rat) = 0 := rfl
  rw [this]; grind
 | g :: l, c :: f, k :: ks, hl, ⟨⟨hk, h1, h2⟩, hr⟩ => by
  have ih := mQ_le hy hl.tail hr
  have hg := hl g List.mem_cons_self
  rw [mQ, sF, sD, Rat.intCast_add, Rat.intCast_add]
  cases c
  ·have t := term_le (n := g.1) (w := g.2) (x := x) hg.1 hk (h2 rfl).1
   simp only [Bool.false_eq_true, if_false]
   have : ((0 : Int) : Rat) = 0 := rfl
   rw [this]
   grind
  ·have e : k = 1 := h1 rfl
   subst e
   have e1 : (g.1 : Rat) / ((1 : Int) : Rat) = (g.1 : Rat) := by grind
   rw [e1]
   simp only [if_true]
   have : ((0 : Int) : Rat) = 0 := rfl
   rw [this]
   grind
 | [], _ :: _, _, _, h => h.elim
 | [], [], _ :: _, _, h => h.elim
 | _ :: _, [], _, _, h => h.elim
 | _ :: _, _ :: _, [], _, h => h.elim
theorem mQ_ge {x y : Int} (hx : 0 ≤ x) (hy : 0 ≤ y) : ∀ {l : List Gp} {f : List Bool} {ks : List Int}, Gok l → Fit x y l f ks → 2 * ((sF l f : Rat) * (y : Rat)) + (x : Rat) * (sD l f : Rat) ≤ 2 * (mQ l ks * (y : Rat)) ∧ (0 < sD l f → 2 * ((sF l f : Rat) * (y : Rat)) + (x : Rat) * (sD l f : Rat) < 2 * (mQ l ks * (y : Rat)))
 | [], [], [], _, _ => by
  refine ⟨?_, fun h => by simp [sD] at h⟩
  show 2 * (((0 : Int) : Rat) * _) + _ * ((0 : Int) : Rat) ≤ 2 * ((0 : Rat) * _)
  have : ((0 : Int) : Rat) = 0 := rfl
  rw [this]; grind
 | g :: l, c :: f, k :: ks, hl, ⟨⟨hk, h1, h2⟩, hr⟩ => by
  have ih := mQ_ge hx hy hl.tail hr
  have hg := hl g List.mem_cons_self
  have h0 : ((0 : Int) : Rat) = 0 := rfl
  rw [mQ, sF, sD, Rat.intCast_add, Rat.intCast_add]
  cases c
  ·have t := term_ge (n := g.1) (w := g.2) (x := x) (y := y) hg.1 hk (Int.le_of_lt (h2 rfl).2)
   simp only [Bool.false_eq_true, if_false]
   rw [h0]
   refine ⟨by have := ih.1; grind, fun hp => ?_⟩
   by_cases hn : 0 < g.1
   ·have t := term_gt (n := g.1) (w := g.2) (x := x) (y := y) hn hk (h2 rfl).2
    have := ih.1
    grind
   ·have e : g.1 = 0 := by omega
    rw [e, Int.zero_mul] at hp
    have := ih.2 (by omega)
    grind
  ·have e : k = 1 := h1 rfl
   subst e
   have e1 : (g.1 : Rat) / ((1 : Int) : Rat) = (g.1 : Rat) := by grind
   have hg0 : (0 : Rat) ≤ (g.1 : Rat) := cast_le hg.1
   rw [e1]
   simp only [if_true]
   rw [h0]
   refine ⟨by have := ih.1; grind, fun hp => ?_⟩
   have := ih.2 (by omega)
   grind
 | [], _ :: _, _, _, h => h.elim
 | [], [], _ :: _, _, h => h.elim
 | _ :: _, [], _, _, h => h.elim
 | _ :: _, _ :: _, [], _, h => h.elim
theorem ceil_bd {a c : Int} (hc : 0 < c) (hca : c < a) : 0 < (a + c - 1) / c ∧ a ≤ (a + c - 1) / c * c ∧ (a + c - 1) / c * c < 2 * a ∧ 2 ≤ (a + c - 1) / c := by
 have e1 := Int.emod_add_mul_ediv (a + c - 1) c
 have e2 := Int.emod_lt_of_pos (a + c - 1) hc
 have e3 := Int.emod_nonneg (a + c - 1) (show c ≠ 0 by omega)
 obtain ⟨q, hq⟩ : ∃ q, (a + c - 1) / c = q := ⟨_, rfl⟩
 rw [hq] at e1 ⊢
 have hm : c * q = q * c := Int.mul_comm _ _
 have h2 : 2 ≤ q := by
  rcases Int.lt_or_le q 2 with h | h
  ·have h3 : q ≤ 1 := by omega
   have := Int.mul_le_mul_of_nonneg_right h3 (show 0 ≤ c by omega)
   omega
  ·exact h
 refine ⟨by omega, by omega, by omega, h2⟩
theorem fit_of {x y : Int} (hx : 0 < x) : ∀ {l : List Gp} {f : List Bool}, Gok l → f.length = l.length → (∀ (i : Nat) g, l[i]? = some g → f[i]? = some false → x * g.2 < y) → Fit x y l f (List.zipWith (fun g c => if c then 1 else (y + x * g.2 - 1) / (x * g.2)) l f)
 | [], [], _, _, _ => trivial
 | g :: l, c :: f, hl, hf, h => by
  have hg := hl g List.mem_cons_self
  refine ⟨?_, fit_of hx hl.tail (by simpa using hf) fun i g' h1 h2 => h (i + 1) g' (by simpa using h1) (by simpa using h2)⟩
  cases c
  ·have h0 := h 0 g rfl rfl
   have hp : 0 < x * g.2 := Int.mul_pos hx (by omega)
   have cb := ceil_bd hp h0
   simp only [Bool.false_eq_true, if_false]
   exact ⟨cb.1, fun h => by simp at h, fun _ => ⟨cb.2.1, cb.2.2.1⟩⟩
  ·exact ⟨by simp, fun _ => rfl, fun h => by simp at h⟩
 | [], _ :: _, _, h, _ => by simp at h
 | _ :: _, [], _, h, _ => by simp at h
theorem all_zip {q : Gp → Bool → Bool} {l : List Gp} {f : List Bool} (h : (List.zipWith q l f).all id = true) {i : Nat} {g : Gp} {c : Bool} (h1 : l[i]? = some g) (h2 : f[i]? = some c) : q g c = true := by
 have h3 : (List.zipWith q l f)[i]? = some (q g c) := by rw [List.getElem?_zipWith, h1, h2]
 have := List.all_eq_true.1 h _ (List.mem_of_getElem? h3)
 simpa using this
theorem full_fit {x y : Int} : ∀ {l : List Gp} {f : List Bool} {F : Gp → Bool → Int}, (∀ g, F g true = 1) → f.length = l.length → (∀ i : Nat, f[i]? ≠ some false) → Fit x y l f (List.zipWith F l f)
 | [], [], _, _, _, _ => trivial
 | g :: l, c :: f, F, hF, hf, h => by
  have hc : c = true := by
   cases c
   ·exact absurd rfl (h 0)
   ·rfl
  subst hc
  refine ⟨?_, full_fit hF (by simpa using hf) fun i hi => h (i + 1) (by simpa using hi)⟩
  rw [hF]
  exact ⟨by decide, fun _ => rfl, fun h => by simp at h⟩
 | [], _ :: _, _, _, h, _ => by simp at h
 | _ :: _, [], _, _, h, _ => by simp at h
theorem budget {b : Int} {l : List Gp} {f : List Bool} (hl : Gok l) (hs : Stb b l f) (ho : okAll b l f = true) :
 mQ l (kAll b l f) ≤ (b : Rat) ∧ ((∃ k ∈ kAll b l f, 1 < k) → (b : Rat) < 2 * mQ l (kAll b l f)) := by
 have hlen := hs.inv.len
 have hn0 := hs.inv.n0
 have hd0 := sD_nonneg (f := f) hl
 have hfit : Fit (num b l f) (sD l f) l f (kAll b l f) := by
  by_cases hx : 0 < num b l f
  ·exact fit_of hx hl hlen hs.no
  ·refine full_fit (F := kD b l f) (fun g => rfl) hlen fun i hi => ?_
   have hil : i < l.length := by have := (List.getElem?_eq_some_iff.1 hi).1; omega
   have := all_zip ho (List.getElem?_eq_getElem hil) hi
   unfold kOk at this
   simp only [Bool.false_or, decide_eq_true_eq] at this
   exact hx this.1
 have hb : num b l f + sF l f = b := by unfold num; omega
 have hbq : ((num b l f : Int) : Rat) + (sF l f : Rat) = (b : Rat) := by rw [← Rat.intCast_add, hb]
 have a1 := mQ_le hd0 hl hfit
 have a2 := mQ_ge hn0 hd0 hl hfit
 by_cases hy : 0 < sD l f
 ·have hy' : (0 : Rat) < (sD l f : Rat) := cast_lt hy
  refine ⟨?_, fun _ => ?_⟩
  ·refine le_mul_cancel hy' ?_
   rw [← hbq]; grind
  ·refine Rat.not_le.1 fun hc => ?_
   have hc := Rat.mul_le_mul_of_nonneg_right hc (show 0 ≤ (sD l f : Rat) by grind)
   have h3 := a2.2 hy
   have hF0 : (0 : Rat) ≤ (sF l f : Rat) * (sD l f : Rat) := Rat.mul_nonneg (cast_le (sF_nonneg hl)) (by grind)
   rw [← hbq] at hc
   grind
 ·
  have hno : ∀ i : Nat, f[i]? ≠ some false := fun i hi => by
   have hil : i < l.length := by have := (List.getElem?_eq_some_iff.1 hi).1; omega
   have h1 := hs.no i _ (List.getElem?_eq_getElem hil) hi
   have hg := hl _ (List.mem_of_getElem? (List.getElem?_eq_getElem hil))
   have := Int.mul_nonneg hn0 (show 0 ≤ (l[i]).2 by omega)
   omega
  have ha : ∀ {l : List Gp} {f : List Bool}, f.length = l.length → (∀ i : Nat, f[i]? ≠ some false) → mQ l (kAll b l f) = (sF l f : Rat) ∧ ∀ k ∈ kAll b l f, k = 1 := by
   intro l
   unfold kAll
   have : ∀ {F : Gp → Bool → Int}, (∀ g, F g true = 1) → ∀ {l : List Gp} {f : List Bool}, f.length = l.length → (∀ i : Nat, f[i]? ≠ some false) → mQ l (List.zipWith F l f) = (sF l f : Rat) ∧ ∀ k ∈ List.zipWith F l f, k = 1 := by
    intro F hF l
    induction l with
    | nil => intro f hf _; cases f with
     | nil => exact ⟨rfl, by simp⟩
     | cons c f => simp at hf
    | cons g l ih =>
     intro f hf h
     cases f with
     | nil => simp at hf
     | cons c f =>
      have hc : c = true := by
       cases c
       ·exact absurd rfl (h 0)
       ·rfl
      subst hc
      have ih := ih (f := f) (by simpa using hf) fun i hi => h (i + 1) (by simpa using hi)
      rw [List.zipWith_cons_cons, mQ, sF, ih.1, hF, Rat.intCast_add]
      have e1 : (g.1 : Rat) / ((1 : Int) : Rat) = (g.1 : Rat) := by grind
      rw [e1]
      refine ⟨rfl, fun k hk => ?_⟩
      rcases List.mem_cons.1 hk with h1 | h1
      ·exact h1
      ·exact ih.2 k h1
   intro f
   exact this fun g => rfl
  have h4 := ha hlen hno
  refine ⟨?_, fun ⟨k, hk, h1⟩ => ?_⟩
  ·rw [h4.1, ← hbq]
   have : (0 : Rat) ≤ ((num b l f : Int) : Rat) := cast_le hn0
   grind
  ·have := h4.2 k hk; omega
end Go.Smp
set_option maxRecDepth 100000
namespace Go.Smp
theorem kAll_get {b : Int} {l : List Gp} {f : List Bool} {i : Nat} {g : Gp} {c : Bool} (h1 : l[i]? = some g) (h2 : f[i]? = some c) : (kAll b l f)[i]? = some (kD b l f g c) := by
 unfold kAll; rw [List.getElem?_zipWith, h1, h2]
theorem kAll_len {b : Int} {l : List Gp} {f : List Bool} (h : f.length = l.length) : (kAll b l f).length = l.length := by
 unfold kAll; rw [List.length_zipWith]; omega
theorem ok_false {b : Int} {l : List Gp} {f : List Bool} (ho : okAll b l f = true) {i : Nat} {g : Gp} (h1 : l[i]? = some g) (h2 : f[i]? = some false) : 0 < num b l f ∧ sD l f ≤ 1000 * num b l f * g.2 := by
 have := all_zip ho h1 h2
 unfold kOk at this
 simpa using this
theorem kD_bd {b : Int} {l : List Gp} {f : List Bool} (hl : Gok l) (hs : Stb b l f) (ho : okAll b l f = true) {i : Nat} {g : Gp} {c : Bool} (h1 : l[i]? = some g) (h2 : f[i]? = some c) : 1 ≤ kD b l f g c ∧ kD b l f g c ≤ 1000 ∧ (c = false → 2 ≤ kD b l f g c) := by
 have hg := hl g (List.mem_of_getElem? h1)
 cases c
 ·have ok := ok_false ho h1 h2
  have hn := hs.no i g h1 h2
  have hp : 0 < num b l f * g.2 := Int.mul_pos ok.1 (by omega)
  have cb := ceil_bd hp hn
  unfold kD
  simp only [Bool.false_eq_true, if_false]
  refine ⟨by omega, ?_, fun _ => cb.2.2.2⟩
  have : (sD l f + num b l f * g.2 - 1) / (num b l f * g.2) < 1001 := Int.ediv_lt_of_lt_mul hp (by
   have e : 1001 * (num b l f * g.2) = 1000 * num b l f * g.2 + num b l f * g.2 := by rw [Int.mul_assoc]; omega
   omega)
  omega
 ·exact ⟨Int.le_refl _, by show (1 : Int) ≤ 1000; decide, fun h => by simp at h⟩
theorem kAll_bd {b : Int} {l : List Gp} {f : List Bool} (hl : Gok l) (hs : Stb b l f) (ho : okAll b l f = true) : ∀ k ∈ kAll b l f, 1 ≤ k ∧ k ≤ 1000 := fun k hk => by
 obtain ⟨i, hi⟩ := List.getElem?_of_mem hk
 have hil := (List.getElem?_eq_some_iff.1 hi).1
 rw [kAll_len hs.inv.len] at hil
 have g1 := List.getElem?_eq_getElem hil
 have f1 : f[i]? = some (f[i]'(by have := hs.inv.len; omega)) := List.getElem?_eq_getElem _
 have := kAll_get (b := b) g1 f1
 rw [hi] at this
 obtain rfl := Option.some.inj this
 have := kD_bd hl hs ho g1 f1
 exact ⟨this.1, this.2.1⟩
theorem weight_le {b : Int} {l : List Gp} {f : List Bool} (hl : Gok l) (hs : Stb b l f) (ho : okAll b l f = true) {i j : Nat} {g h : Gp} {x y : Int} (h1 : l[i]? = some g) (h2 : l[j]? = some h) (hw : h.2 ≤ g.2) (k1 : (kAll b l f)[i]? = some x) (k2 : (kAll b l f)[j]? = some y) : x ≤ y := by
 have hlen := hs.inv.len
 have f1 : f[i]? = some (f[i]'(by have := (List.getElem?_eq_some_iff.1 h1).1; omega)) := List.getElem?_eq_getElem _
 have f2 : f[j]? = some (f[j]'(by have := (List.getElem?_eq_some_iff.1 h2).1; omega)) := List.getElem?_eq_getElem _
 obtain ⟨c, hc⟩ : ∃ c, f[i]? = some c := ⟨_, f1⟩
 obtain ⟨d, hd⟩ : ∃ d, f[j]? = some d := ⟨_, f2⟩
 rw [kAll_get h1 hc] at k1
 rw [kAll_get h2 hd] at k2
 obtain rfl := Option.some.inj k1
 obtain rfl := Option.some.inj k2
 have b1 := kD_bd hl hs ho h1 hc
 have b2 := kD_bd hl hs ho h2 hd
 have hn0 := hs.inv.n0
 cases c
 ·have n1 := hs.no i g h1 hc
  have hm := Int.mul_le_mul_of_nonneg_left hw hn0
  have hdf : d = false := by
   cases d
   ·rfl
   ·have := hs.inv.w j h h2 hd; omega
  subst hdf
  have ok := ok_false ho h1 hc
  have g0 := hl g (List.mem_of_getElem? h1)
  have h0 := hl h (List.mem_of_getElem? h2)
  have hd0 := sD_nonneg (f := f) hl
  unfold kD
  simp only [Bool.false_eq_true, if_false]
  exact ceil_le (Int.mul_pos ok.1 (by omega)) (Int.mul_pos ok.1 (by omega)) hd0 (Int.mul_le_mul_of_nonneg_left hm hd0)
 ·have : kD b l f g true = 1 := rfl
  omega
theorem more_le {b b' : Int} {l : List Gp} {f h : List Bool} (hl : Gok l) (hf : Stb b l f) (hh : Stb b' l h) (hb : b ≤ b') (ho : okAll b l f = true) : okAll b' l h = true ∧ ∀ (i : Nat) x y, (kAll b l f)[i]? = some x → (kAll b' l h)[i]? = some y → y ≤ x := by
 have hle := stb_le hl hf hh hb
 have hlev := stb_lev hl hf hh hb
 have lf := hf.inv.len
 have lh := hh.inv.len
 have hd0 := sD_nonneg (f := f) hl
 have key : ∀ (i : Nat) g, l[i]? = some g → h[i]? = some false → f[i]? = some false ∧ (0 < num b' l h ∧ sD l h ≤ 1000 * num b' l h * g.2) := fun i g h1 h2 => by
  have hil := (List.getElem?_eq_some_iff.1 h1).1
  have f1 : f[i]? = some (f[i]'(by omega)) := List.getElem?_eq_getElem _
  have hff : f[i]? = some false := by
   cases hc : f[i]'(by omega)
   ·rw [hc] at f1; exact f1
   ·rw [hc] at f1
    have := le_get hle i f1
    rw [h2] at this; simp at this
  have ok := ok_false ho h1 hff
  have hn := hh.no i g h1 h2
  have hm0 := hh.inv.n0
  have hg := hl g (List.mem_of_getElem? h1)
  have hp : 0 < sD l h := by have := Int.mul_nonneg hm0 (show 0 ≤ g.2 by omega); omega
  have h3 : 0 < num b l f * sD l h := Int.mul_pos ok.1 hp
  have h4 : 0 < num b' l h := by
   rcases Int.lt_or_le 0 (num b' l h) with h5 | h5
   ·exact h5
   ·have e : num b' l h = 0 := by omega
    rw [e, Int.zero_mul] at hlev; omega
  refine ⟨hff, h4, ?_⟩
  refine mul_pos_le (c := num b l f) ok.1 ?_
  have h6 := Int.mul_le_mul_of_nonneg_left ok.2 (Int.le_of_lt h4)
  have e1 : sD l h * num b l f = num b l f * sD l h := Int.mul_comm _ _
  have e2 : num b' l h * (1000 * num b l f * g.2) = 1000 * num b' l h * g.2 * num b l f := by
   rw [Int.mul_assoc 1000, Int.mul_left_comm, Int.mul_assoc 1000, Int.mul_assoc 1000]
   congr 1
   rw [Int.mul_assoc, Int.mul_comm g.2]
  omega
 refine ⟨?_, fun i x y h1 h2 => ?_⟩
 ·refine List.all_eq_true.2 fun c hc => ?_
  obtain ⟨i, hi⟩ := List.getElem?_of_mem hc
  rw [List.getElem?_zipWith] at hi
  cases h1 : l[i]? with
  | none => rw [h1] at hi; simp at hi
  | some g =>
   cases h2 : h[i]? with
   | none => rw [h1, h2] at hi; simp at hi
   | some d =>
    rw [h1, h2] at hi
    obtain rfl := Option.some.inj hi
    cases d
    ·have := (key i g h1 h2).2
     show kOk b' l h g false = true
     unfold kOk
     simpa using this
    ·rfl
 ·have hil := (List.getElem?_eq_some_iff.1 h1).1
  rw [kAll_len lf] at hil
  have g1 := List.getElem?_eq_getElem hil
  obtain ⟨c, hc⟩ : ∃ c, f[i]? = some c := ⟨_, List.getElem?_eq_getElem (by omega)⟩
  obtain ⟨d, hd⟩ : ∃ d, h[i]? = some d := ⟨_, List.getElem?_eq_getElem (by omega)⟩
  rw [kAll_get g1 hc] at h1
  rw [kAll_get g1 hd] at h2
  obtain rfl := Option.some.inj h1
  obtain rfl := Option.some.inj h2
  cases d
  ·obtain ⟨k1, k2, k3⟩ := key i _ g1 hd
   rw [hc] at k1
   obtain rfl := Option.some.inj k1
   have ok := ok_false ho g1 hc
   have hg := hl _ (List.mem_of_getElem? g1)
   unfold kD
   simp only [Bool.false_eq_true, if_false]
   refine ceil_le (Int.mul_pos k2 (by omega)) (Int.mul_pos ok.1 (by omega)) hd0 ?_
   have e := Int.mul_le_mul_of_nonneg_right hlev (show 0 ≤ (l[i]).2 by omega)
   have e1 : sD l h * (num b l f * (l[i]).2) = num b l f * sD l h * (l[i]).2 := by rw [← Int.mul_assoc, Int.mul_comm (sD l h)]
   have e2 : sD l f * (num b' l h * (l[i]).2) = num b' l h * sD l f * (l[i]).2 := by rw [← Int.mul_assoc, Int.mul_comm (sD l f)]
   omega
  ·have := (kD_bd hl hf ho g1 hc).1
   exact this
def scl (m : Int) (l : List Gp) : List Gp := l.map fun g => (g.1, g.2 * m)
theorem sF_scl {m : Int} : ∀ {l : List Gp} {f : List Bool}, sF (scl m l) f = sF l f
 | [], _ => by simp [scl, sF]
 | g :: l, [] => by simp [scl, sF]
 | g :: l, c :: f => by
  have := sF_scl (m := m) (l := l) (f := f)
  show (if c then g.1 else 0) + sF (scl m l) f = _
  rw [this, sF]
theorem sD_scl {m : Int} : ∀ {l : List Gp} {f : List Bool}, sD (scl m l) f = sD l f * m
 | [], _ => by simp [scl, sD]
 | g :: l, [] => by simp [scl, sD]
 | g :: l, c :: f => by
  have := sD_scl (m := m) (l := l) (f := f)
  show (if c then 0 else g.1 * (g.2 * m)) + sD (scl m l) f = _
  rw [this, sD, Int.add_mul]
  cases c
  ·simp only [Bool.false_eq_true, if_false]; rw [Int.mul_assoc]
  ·simp
theorem scl_get {m : Int} {l : List Gp} {i : Nat} {g : Gp} (h : (scl m l)[i]? = some g) : ∃ x, l[i]? = some x ∧ g = (x.1, x.2 * m) := by
 unfold scl at h
 rw [List.getElem?_map] at h
 obtain ⟨x, hx, rfl⟩ := Option.map_eq_some_iff.1 h
 exact ⟨x, hx, rfl⟩
theorem scl_ok {m : Int} {l : List Gp} (hm : 1 ≤ m) (hl : Gok l) : Gok (scl m l) := fun g hg => by
 obtain ⟨x, hx, rfl⟩ := List.mem_map.1 hg
 have := hl x hx
 have h1 : 1 * 1 ≤ x.2 * m := Int.mul_le_mul this.2 hm (by decide) (by omega)
 exact ⟨this.1, by simpa using h1⟩
theorem scl_num {b m : Int} {l : List Gp} {f : List Bool} : num b (scl m l) f = num b l f := by unfold num; rw [sF_scl]
theorem scl_stb {b m : Int} {l : List Gp} {f : List Bool} (hm : 1 ≤ m) (h : Stb b l f) : Stb b (scl m l) f := by
 refine ⟨⟨by unfold scl; rw [List.length_map]; exact h.inv.len, by rw [scl_num]; exact h.inv.n0, fun i g h1 h2 => ?_⟩, fun i g h1 h2 => ?_⟩
 ·obtain ⟨x, hx, rfl⟩ := scl_get h1
  have := Int.mul_le_mul_of_nonneg_right (h.inv.w i x hx h2) (show 0 ≤ m by omega)
  rw [sD_scl, scl_num]
  show sD l f * m ≤ num b l f * (x.2 * m)
  rw [← Int.mul_assoc]; exact this
 ·obtain ⟨x, hx, rfl⟩ := scl_get h1
  have := Int.mul_lt_mul_of_pos_right (h.no i x hx h2) (show 0 < m by omega)
  rw [sD_scl, scl_num]
  show num b l f * (x.2 * m) < sD l f * m
  rw [← Int.mul_assoc]; exact this
theorem scl_all {b m : Int} {l : List Gp} {f h : List Bool} (hm : 1 ≤ m) (hl : Gok l) (hf : Stb b l f) (hh : Stb b (scl m l) h) : okAll b (scl m l) h = okAll b l f ∧ (okAll b l f = true → kAll b (scl m l) h = kAll b l f) := by
 have e := stb_eq (scl_ok hm hl) (scl_stb hm hf) hh
 subst e
 have ez : ∀ {β : Type} {F G : Gp → Bool → β} {l : List Gp} {f : List Bool}, (∀ (i : Nat) g c, l[i]? = some g → f[i]? = some c → F (g.1, g.2 * m) c = G g c) → List.zipWith F (scl m l) f = List.zipWith G l f := by
  intro β F G l
  induction l with
  | nil => intro f _; rfl
  | cons g l ih =>
   intro f hp
   cases f with
   | nil => rfl
   | cons c f =>
    show F (g.1, g.2 * m) c :: List.zipWith F (scl m l) f = G g c :: List.zipWith G l f
    rw [hp 0 g c rfl rfl, ih fun i g' c' h1 h2 => hp (i + 1) g' c' (by simpa using h1) (by simpa using h2)]
 refine ⟨?_, fun ho => ?_⟩
 ·unfold okAll
  congr 1
  refine ez fun i g c _ _ => ?_
  unfold kOk
  rw [scl_num, sD_scl]
  congr 1
  refine decide_eq_decide.2 (and_congr_right fun _ => ?_)
  have e1 : 1000 * num b l f * (g.2 * m) = 1000 * num b l f * g.2 * m := by rw [Int.mul_assoc (1000 * num b l f)]
  show sD l f * m ≤ 1000 * num b l f * (g.2 * m) ↔ _
  rw [e1]
  exact ⟨fun h => mul_pos_le (by omega) h, fun h => Int.mul_le_mul_of_nonneg_right h (by omega)⟩
 ·unfold kAll
  refine ez fun i g c h1 h2 => ?_
  unfold kD
  rw [scl_num, sD_scl]
  cases c
  ·simp only [Bool.false_eq_true, if_false]
   have ok := ok_false ho h1 h2
   have hg := hl g (List.mem_of_getElem? h1)
   have hd0 := sD_nonneg (f := f) hl
   have h3 : 0 < num b l f * g.2 := Int.mul_pos ok.1 (by omega)
   have e1 : num b l f * (g.2 * m) = num b l f * g.2 * m := by rw [Int.mul_assoc]
   rw [e1]
   refine ceil_eq (Int.mul_pos h3 (by omega)) h3 (Int.mul_nonneg hd0 (by omega)) hd0 ?_
   rw [Int.mul_assoc, Int.mul_comm m]
  ·rfl
def sumN' : List Gp → Int
 | [] => 0
 | g :: l => g.1 + sumN' l
theorem sF_all : ∀ l : List Gp, sF l (List.replicate l.length true) = sumN' l ∧ sD l (List.replicate l.length true) = 0
 | [] => ⟨rfl, rfl⟩
 | g :: l => by
  have := sF_all l
  rw [List.length_cons, List.replicate_succ, sF, sD, this.1, this.2, sumN']
  exact ⟨rfl, rfl⟩
theorem enough {l : List Gp} {f : List Bool} (hl : Gok l) (hs : Stb (sumN' l) l f) : okAll (sumN' l) l f = true ∧ ∀ k ∈ kAll (sumN' l) l f, k = 1 := by
 have hlen := hs.inv.len
 have hno : ∀ i : Nat, f[i]? ≠ some false := fun i hi => by
  have hil : i < l.length := by have := (List.getElem?_eq_some_iff.1 hi).1; omega
  have hle : Le f (List.replicate l.length true) := le_of (by rw [List.length_replicate]; exact hlen) fun j hj => by
   have := (List.getElem?_eq_some_iff.1 hj).1
   rw [List.getElem?_replicate, if_pos (by omega)]
  obtain ⟨j, g, h1, h2, h3, h4⟩ := dF_pos_ex (h := List.replicate l.length true) hl hlen (by rw [List.length_replicate]) ⟨i, hi, by rw [List.getElem?_replicate, if_pos hil]⟩
  have e1 := sF_diff (l := l) hle
  have e2 := sD_diff (l := l) hle
  have a3 := diff_le (y := g.2) (f := f) (h := List.replicate l.length true) hl h4
  rw [(sF_all l).1] at e1
  rw [(sF_all l).2] at e2
  have hn := hs.no j g h1 h2
  have : num (sumN' l) l f = dF l f (List.replicate l.length true) := by unfold num; omega
  rw [this] at hn
  omega
 refine ⟨List.all_eq_true.2 fun c hc => ?_, fun k hk => ?_⟩
 ·obtain ⟨i, hi⟩ := List.getElem?_of_mem hc
  rw [List.getElem?_zipWith] at hi
  cases h1 : l[i]? with
  | none => rw [h1] at hi; simp at hi
  | some g =>
   cases h2 : f[i]? with
   | none => rw [h1, h2] at hi; simp at hi
   | some d =>
    rw [h1, h2] at hi
    obtain rfl := Option.some.inj hi
    cases d
    ·exact absurd h2 (hno i)
    ·rfl
 ·obtain ⟨i, hi⟩ := List.getElem?_of_mem hk
  unfold kAll at hi
  rw [List.getElem?_zipWith] at hi
  cases h1 : l[i]? with
  | none => rw [h1] at hi; simp at hi
  | some g =>
   cases h2 : f[i]? with
   | none => rw [h1, h2] at hi; simp at hi
   | some d =>
    rw [h1, h2] at hi
    obtain rfl := Option.some.inj hi
    cases d
    ·exact absurd h2 (hno i)
    ·rfl
end Go.Smp
set_option maxRecDepth 100000
namespace Go.Smp
section
variable {α : Type} (key : α → Int)
def run (t : Int) : List α → Nat
 | [] => 0
 | f :: l => if key f = t then run t l + 1 else 0
def trsN : Nat → List α → List (List α)
 | 0, _ => []
 | _ + 1, [] => []
 | n + 1, f :: l => (f :: l.take (run key (key f) l)) :: trsN n (l.drop (run key (key f) l))
def trs (l : List α) : List (List α) := trsN key l.length l
theorem run_le (t : Int) : ∀ l : List α, run key t l ≤ l.length
 | [] => Nat.le_refl _
 | f :: l => by
  have := run_le t l
  unfold run
  split
  ·simp; omega
  ·simp
theorem run_in {t : Int} : ∀ {l : List α} {i : Nat} {x : α}, i < run key t l → l[i]? = some x → key x = t
 | [], _, _, h, _ => by simp [run] at h
 | f :: l, 0, x, h, hx => by
  unfold run at h
  split at h
  ·next hk => have : f = x := by simpa using hx
              subst this; exact hk
  ·omega
 | f :: l, i + 1, x, h, hx => by
  unfold run at h
  split at h
  ·exact run_in (t := t) (l := l) (i := i) (by omega) (by simpa using hx)
  ·omega
theorem run_out {t : Int} : ∀ {l : List α} {x : α}, l[run key t l]? = some x → key x ≠ t
 | [], _, hx => by simp at hx
 | f :: l, x, hx => by
  unfold run at hx
  split at hx
  ·exact run_out (by simpa using hx)
  ·next hk => have : f = x := by simpa using hx
              subst this; exact hk
theorem trsN_eq : ∀ (n m : Nat) (l : List α), l.length ≤ n → l.length ≤ m → trsN key n l = trsN key m l
 | 0, 0, _, _, _ => rfl
 | 0, m + 1, l, h, _ => by
  have : l = [] := List.eq_nil_of_length_eq_zero (by omega)
  subst this; rfl
 | n + 1, 0, l, _, h => by
  have : l = [] := List.eq_nil_of_length_eq_zero (by omega)
  subst this; rfl
 | n + 1, m + 1, [], _, _ => rfl
 | n + 1, m + 1, f :: l, h1, h2 => by
  rw [trsN, trsN, trsN_eq n m _ (by simp at h1 ⊢; omega) (by simp at h2 ⊢; omega)]
theorem trs_nil : trs key ([] : List α) = [] := rfl
theorem trs_cons (f : α) (l : List α) : trs key (f :: l) = (f :: l.take (run key (key f) l)) :: trs key (l.drop (run key (key f) l)) := by
 show trsN key (l.length + 1) (f :: l) = _
 rw [trsN]
 congr 1
 exact trsN_eq key _ _ _ (by simp) (Nat.le_refl _)
theorem trs_ind {P : List α → Prop} (h0 : P []) (h1 : ∀ f l, P (l.drop (run key (key f) l)) → P (f :: l)) : ∀ l, P l := by
 have : ∀ (n : Nat) (l : List α), l.length ≤ n → P l := by
  intro n
  induction n with
  | zero => intro l hl; rw [List.eq_nil_of_length_eq_zero (show l.length = 0 by omega)]; exact h0
  | succ n ih =>
   intro l hl
   cases l with
   | nil => exact h0
   | cons f l => exact h1 f l (ih _ (by simp at hl ⊢; omega))
 exact fun l => this _ l (Nat.le_refl _)
theorem trs_flat : ∀ l : List α, (trs key l).flatten = l := by
 refine trs_ind key rfl fun f l ih => ?_
 rw [trs_cons, List.flatten_cons, ih, List.cons_append, List.take_append_drop]
theorem trs_ne : ∀ (l : List α), ∀ g ∈ trs key l, g ≠ [] := by
 refine trs_ind key (by simp [trs_nil]) fun f l ih g hg => ?_
 rw [trs_cons] at hg
 rcases List.mem_cons.1 hg with rfl | hg
 ·simp
 ·exact ih g hg
theorem trs_key : ∀ (l : List α), ∀ g ∈ trs key l, ∀ x ∈ g, ∀ y ∈ g, key x = key y := by
 refine trs_ind key (by simp [trs_nil]) fun f l ih g hg => ?_
 rw [trs_cons] at hg
 rcases List.mem_cons.1 hg with rfl | hg
 ·have hk : ∀ x ∈ f :: l.take (run key (key f) l), key x = key f := fun x hx => by
   rcases List.mem_cons.1 hx with rfl | hx
   ·rfl
   ·obtain ⟨i, hi, e⟩ := List.getElem_of_mem hx
    rw [List.length_take] at hi
    rw [List.getElem_take] at e
    exact run_in key (show i < run key (key f) l by omega) (by rw [List.getElem?_eq_getElem (by omega), e])
  exact fun x hx y hy => (hk x hx).trans (hk y hy).symm
 ·exact ih g hg
theorem trs_mem {l : List α} {g : List α} (hg : g ∈ trs key l) {x : α} (hx : x ∈ g) : x ∈ l := by
 rw [← trs_flat key l]; exact List.mem_flatten.2 ⟨g, hg, hx⟩
theorem trs_len_le : ∀ l : List α, (trs key l).length ≤ l.length := by
 refine trs_ind key (Nat.le_refl _) fun f l ih => ?_
 rw [trs_cons, List.length_cons, List.length_cons]
 rw [List.length_drop] at ih
 omega
def Asc (l : List α) : Prop := l.Pairwise fun a b => key a ≤ key b
def hdK : List α → Int
 | [] => 0
 | f :: _ => key f
theorem trs_asc : ∀ l : List α, Asc key l → ((trs key l).map (hdK key)).Pairwise (· < ·) := by
 refine trs_ind key (fun _ => by simp [trs_nil]) fun f l ih ha => ?_
 rw [trs_cons, List.map_cons, List.pairwise_cons]
 have ha2 := List.pairwise_cons.1 ha
 have hd : Asc key (l.drop (run key (key f) l)) := ha2.2.sublist (List.drop_sublist _ _)
 refine ⟨fun t ht => ?_, ih hd⟩
 obtain ⟨g, hg, rfl⟩ := List.mem_map.1 ht
 show key f < _
 rcases g with _ | ⟨x, g⟩
 ·exact absurd rfl (trs_ne key _ _ hg)
 ·show key f < key x
  have hx : x ∈ l.drop (run key (key f) l) := trs_mem key hg (List.mem_cons_self ..)
  have h1 := ha2.1 x (List.mem_of_mem_drop hx)
  rcases Int.lt_or_eq_of_le h1 with h2 | h2
  ·exact h2
  ·exfalso
   obtain ⟨y, hy⟩ : ∃ y, l[run key (key f) l]? = some y := by
    have hl : run key (key f) l < l.length := by
     have := List.length_pos_of_mem hx
     rw [List.length_drop] at this; omega
    exact ⟨_, List.getElem?_eq_getElem hl⟩
   have h3 := run_out key hy
   have h4 := ha2.1 y (List.mem_of_getElem? hy)
   have e : l.drop (run key (key f) l) = y :: l.drop (run key (key f) l + 1) := by
    have hl := (List.getElem?_eq_some_iff.1 hy)
    rw [List.drop_eq_getElem_cons hl.1, hl.2]
   rw [e] at hx hd
   have h5 := List.pairwise_cons.1 hd
   rcases List.mem_cons.1 hx with rfl | hx
   ·exact h3 h2.symm
   ·have := h5.1 x hx
    omega
end
end Go.Smp
set_option maxRecDepth 100000
namespace Go.Smp
section
variable {α : Type} (key : α → Int)
inductive All2 {α β : Type} (R : α → β → Prop) : List α → List β → Prop
 | nil : All2 R [] []
 | cons {a : α} {b : β} {l : List α} {m : List β} : R a b → All2 R l m → All2 R (a :: l) (b :: m)
end
end Go.Smp
namespace Go.Num
def putZ (z : Nat) : List UInt8 := if z < 128 then [UInt8.ofNat z] else UInt8.ofNat (z % 128 + 128) :: putZ (z / 128)
termination_by z
decreasing_by omega
theorem putZ_lt {z : Nat} (h : z < 128) : putZ z = [UInt8.ofNat z] := by rw [putZ, if_pos h]
theorem putZ_ge {z : Nat} (h : 128 ≤ z) : putZ z = UInt8.ofNat (z % 128 + 128) :: putZ (z / 128) := by rw [putZ, if_neg (by omega)]
def zig (n : Int) : Nat := if n < 0 then (2 * -n - 1).toNat else (2 * n).toNat
def putI (n : Int) : List UInt8 := putZ (zig n)
theorem putZ_len1 (z : Nat) : 0 < (putZ z).length := by
 rw [putZ]; split <;> simp
theorem putZ_len (k z : Nat) (h : z < 128 ^ k) (hk : 0 < k) : (putZ z).length ≤ k := by
 induction k generalizing z with
 | zero => omega
 | succ k ih =>
  by_cases hz : z < 128
  ·rw [putZ_lt hz]; simp
  ·rw [putZ_ge (by omega), List.length_cons]
   have h0 : 0 < k := by
    rcases k with _ | k
    ·simp at h; omega
    ·omega
   have : z / 128 < 128 ^ k := by
    rw [Nat.pow_succ] at h
    omega
   have := ih _ this h0
   omega
theorem u8_toNat {z : Nat} (h : z < 256) : (UInt8.ofNat z).toNat = z := by
 rw [UInt8.toNat_ofNat']; exact Nat.mod_eq_of_lt h
theorem p128 : (128 : Nat) ^ 9 = 9223372036854775808 := by decide
theorem zig_lt {n : Int} (h1 : -4611686018427387903 ≤ n) (h2 : n ≤ 4611686018427387903) : zig n < 9223372036854775808 := by
 unfold zig
 split <;> omega
theorem putI_small {n : Int} (h : zig n < 128) : putI n = [UInt8.ofNat (zig n)] := putZ_lt h
def putS (s : List UInt8) : List UInt8 := putI s.length ++ s
end Go.Num
