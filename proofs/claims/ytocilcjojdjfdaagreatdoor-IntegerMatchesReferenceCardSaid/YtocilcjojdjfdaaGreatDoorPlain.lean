/-
  Contracts of functions of the program, and plain lemmas on numbers and strings. By an AI agent.
-/
import Derived.Lib.ItoaNum
import Derived.Lib.Strings
import Derived.Lib.Atoi
import Derived.Lib.AtoiAll
set_option linter.unusedSimpArgs false
set_option linter.unusedVariables false
namespace Go.Num
def num : List Int → Int
  | [] => 0
  | d :: ds => d + 10000 * num ds
def Dg (xs : List Int) : Prop := ∀ d ∈ xs, 0 ≤ d ∧ d < 10000
def trimL : List Int → List Int
  | [] => []
  | d :: ds => if d = 0 ∧ trimL ds = [] then [] else d :: trimL ds
def Nrm (xs : List Int) : Prop := Dg xs ∧ trimL xs = xs
theorem num_append (xs ys : List Int) : num (xs ++ ys) = num xs + 10000 ^ xs.length * num ys := by
  induction xs with
  | nil => simp [num]
  | cons d ds ih => simp only [List.cons_append, num, ih, List.length_cons, Int.pow_succ]; grind
theorem num_nonneg {xs : List Int} (h : Dg xs) : 0 ≤ num xs := by
  induction xs with
  | nil => simp [num]
  | cons d ds ih =>
    have h1 := h d (by simp)
    have h2 := ih fun x hx => h x (by simp [hx])
    simp only [num]; omega
theorem num_lt {xs : List Int} (h : Dg xs) : num xs < 10000 ^ xs.length := by
  induction xs with
  | nil => simp [num]
  | cons d ds ih =>
    have h1 := h d (by simp)
    have h2 := ih fun x hx => h x (by simp [hx])
    simp only [num, List.length_cons, Int.pow_succ]; omega
theorem num_trimL (xs : List Int) : num (trimL xs) = num xs := by
  induction xs with
  | nil => rfl
  | cons d ds ih =>
    simp only [trimL]
    split
    · next h => rw [h.2] at ih; simp only [num] at ih ⊢; omega
    · simp only [num, ih]
theorem trimL_trimL (xs : List Int) : trimL (trimL xs) = trimL xs := by
  induction xs with
  | nil => rfl
  | cons d ds ih =>
    simp only [trimL]
    split
    · rfl
    · next h => simp only [trimL, ih, h, ↓reduceIte]
theorem trimL_mem {xs : List Int} {d : Int} (h : d ∈ trimL xs) : d ∈ xs := by
  induction xs with
  | nil => exact h
  | cons x xs ih =>
    simp only [trimL] at h
    split at h
    · simp at h
    · rcases List.mem_cons.1 h with h | h
      · simp [h]
      · simp [ih h]
theorem Nrm.trimL {xs : List Int} (h : Dg xs) : Nrm (trimL xs) := ⟨fun d hd => h d (trimL_mem hd), trimL_trimL xs⟩
theorem trimL_snoc_zero (xs : List Int) : trimL (xs ++ [0]) = trimL xs := by
  induction xs with
  | nil => rfl
  | cons d ds ih => simp only [List.cons_append, trimL, ih]
theorem trimL_snoc {d : Int} (hd : d ≠ 0) (xs : List Int) : trimL (xs ++ [d]) = xs ++ [d] := by
  induction xs with
  | nil => simp [trimL, hd]
  | cons x xs ih => simp [trimL, ih]
theorem Nrm.tail {d : Int} {ds : List Int} (h : Nrm (d :: ds)) : Nrm ds := by
  refine ⟨fun x hx => h.1 x (by simp [hx]), ?_⟩
  have := h.2
  simp only [Num.trimL] at this
  split at this
  · simp at this
  · simpa using this
theorem Nrm.pos {xs : List Int} (h : Nrm xs) (hne : xs ≠ []) : 0 < num xs := by
  induction xs with
  | nil => exact absurd rfl hne
  | cons d ds ih =>
    have hd := h.1 d (by simp)
    by_cases hds : ds = []
    · subst hds
      have := h.2
      simp only [Num.trimL] at this
      by_cases h0 : d = 0
      · simp [h0] at this
      · simp only [num]; omega
    · have := ih h.tail hds
      simp only [num]; omega
theorem Nrm.eq {xs ys : List Int} (hx : Nrm xs) (hy : Nrm ys) (h : num xs = num ys) : xs = ys := by
  induction xs generalizing ys with
  | nil =>
    cases ys with
    | nil => rfl
    | cons y ys => have := hy.pos (by simp); rw [← h] at this; simp [num] at this
  | cons x xs ih =>
    cases ys with
    | nil => have := hx.pos (by simp); rw [h] at this; simp [num] at this
    | cons y ys =>
      have h1 := hx.1 x (by simp)
      have h2 := hy.1 y (by simp)
      simp only [num] at h
      have hxy : x = y := by omega
      have : num xs = num ys := by omega
      rw [hxy, ih hx.tail hy.tail this]
theorem Nrm.ge {xs : List Int} (h : Nrm xs) (hne : xs ≠ []) : 10000 ^ (xs.length - 1) ≤ num xs := by
  induction xs with
  | nil => exact absurd rfl hne
  | cons d ds ih =>
    have hd := h.1 d (by simp)
    by_cases hds : ds = []
    · subst hds
      have := h.pos (by simp)
      simp only [num, List.length_cons, List.length_nil] at this ⊢
      simp at this ⊢; omega
    · have := ih h.tail hds
      obtain ⟨x, xs, rfl⟩ := List.exists_cons_of_ne_nil hds
      simp only [List.length_cons, Nat.add_sub_cancel] at this ⊢
      rw [Int.pow_succ]
      simp only [num] at this ⊢; omega
theorem pow_mono {a b : Nat} (h : a ≤ b) : (10000 : Int) ^ a ≤ 10000 ^ b := by
  obtain ⟨k, rfl⟩ := Nat.exists_eq_add_of_le h
  induction k with
  | zero => simp
  | succ k ih =>
    have := ih (by omega)
    rw [← Nat.add_assoc, Int.pow_succ]
    have h0 : (0 : Int) < 10000 ^ (a + k) := Int.pow_pos (by decide)
    omega
theorem Nrm.len {xs : List Int} (h : Nrm xs) {k : Nat} (hk : num xs < 10000 ^ k) : xs.length ≤ k := by
  by_cases hne : xs = []
  · subst hne; simp
  · have h1 := h.ge hne
    refine Classical.byContradiction fun hc => ?_
    have := pow_mono (a := k) (b := xs.length - 1) (by omega)
    omega
def tot (D : Nat → Int) : Nat → Int
  | 0 => 0
  | n + 1 => tot D n + D n * 10000 ^ n
theorem tot_stay {D : Nat → Int} {n : Nat} (h : ∀ i, n ≤ i → D i = 0) {m : Nat} (hm : n ≤ m) : tot D m = tot D n := by
  obtain ⟨k, rfl⟩ := Nat.exists_eq_add_of_le hm
  induction k with
  | zero => rfl
  | succ k ih => rw [← Nat.add_assoc]; simp only [tot]; rw [ih (by omega), h (n + k) (by omega)]; omega
def dig (xs : List Int) (i : Nat) : Int := xs[i]?.getD 0
theorem tot_dig_aux (xs : List Int) (n : Nat) : tot (dig xs) n = num (xs.take n) := by
  induction n with
  | zero => simp [tot, num]
  | succ n ih =>
    simp only [tot, ih]
    rw [List.take_add_one, num_append]
    unfold dig
    by_cases h : n < xs.length
    · rw [List.getElem?_eq_getElem h]
      simp only [Option.getD_some, Option.toList_some, num, List.length_take, Nat.min_eq_left (Nat.le_of_lt h)]
      rw [Int.mul_comm]; simp
    · rw [List.getElem?_eq_none (by omega)]
      simp [num]
theorem tot_dig {xs : List Int} {n : Nat} (h : xs.length ≤ n) : tot (dig xs) n = num xs := by
  rw [tot_dig_aux, List.take_of_length_le h]
theorem tot_add (D E : Nat → Int) (n : Nat) : tot (fun i => D i + E i) n = tot D n + tot E n := by
  induction n with
  | zero => rfl
  | succ n ih => simp only [tot, ih, Int.add_mul]; omega
theorem tot_sub (D E : Nat → Int) (n : Nat) : tot (fun i => D i - E i) n = tot D n - tot E n := by
  induction n with
  | zero => rfl
  | succ n ih => simp only [tot, ih, Int.sub_mul]; omega
theorem tot_mul (D : Nat → Int) (k : Int) (n : Nat) : tot (fun i => D i * k) n = tot D n * k := by
  induction n with
  | zero => simp [tot]
  | succ n ih => simp only [tot, ih, Int.add_mul]; grind
theorem dig_bound {xs : List Int} (h : Dg xs) (i : Nat) : 0 ≤ dig xs i ∧ dig xs i < 10000 := by
  unfold dig
  cases hx : xs[i]? with
  | none => simp
  | some d => exact h d (List.mem_of_getElem? hx)
theorem dig_out {xs : List Int} {i : Nat} (h : xs.length ≤ i) : dig xs i = 0 := by unfold dig; rw [List.getElem?_eq_none h]; rfl
theorem num_split (xs : List Int) (i : Nat) (h : i ≤ xs.length) : num xs = num (xs.take i) + 10000 ^ i * num (xs.drop i) := by
  conv => lhs; rw [← List.take_append_drop i xs]
  rw [num_append, List.length_take, Nat.min_eq_left h]
theorem Dg.take {xs : List Int} (h : Dg xs) (i : Nat) : Dg (xs.take i) := fun d hd => h d (List.mem_of_mem_take hd)
theorem Dg.drop {xs : List Int} (h : Dg xs) (i : Nat) : Dg (xs.drop i) := fun d hd => h d (List.mem_of_mem_drop hd)
theorem num_lt_of {xs ys : List Int} (hx : Dg xs) (hy : Dg ys) {i : Nat} (h1 : i < xs.length) (h2 : i < ys.length) (hd : xs.drop (i + 1) = ys.drop (i + 1)) (hlt : xs[i] < ys[i]) : num xs < num ys := by
  rw [num_split xs i (by omega), num_split ys i (by omega), List.drop_eq_getElem_cons h1, List.drop_eq_getElem_cons h2, hd]
  simp only [num]
  have a1 := num_lt (hx.take i)
  have a2 := num_nonneg (hy.take i)
  rw [List.length_take, Nat.min_eq_left (by omega)] at a1
  have hp : (0 : Int) < 10000 ^ i := Int.pow_pos (by decide)
  obtain ⟨k, hk⟩ : ∃ k, ys[i] = xs[i] + 1 + k ∧ 0 ≤ k := ⟨ys[i] - xs[i] - 1, by omega, by omega⟩
  rw [hk.1]
  have : (10000 : Int) ^ i * (xs[i] + 1 + k + 10000 * num (ys.drop (i + 1))) = 10000 ^ i * (xs[i] + 10000 * num (ys.drop (i + 1))) + 10000 ^ i + 10000 ^ i * k := by grind
  rw [this]
  have := Int.mul_nonneg (Int.le_of_lt hp) hk.2
  omega
theorem Nrm.lt_of_len {xs ys : List Int} (hx : Nrm xs) (hy : Nrm ys) (h : xs.length < ys.length) : num xs < num ys := by
  have h1 := num_lt hx.1
  have h2 := hy.ge (by intro hc; subst hc; simp at h)
  have := pow_mono (a := xs.length) (b := ys.length - 1) (by omega)
  omega
theorem Nrm.cons {d : Int} {xs : List Int} (h : Nrm xs) (hne : xs ≠ []) (h0 : 0 ≤ d) (h1 : d < 10000) : Nrm (d :: xs) := by
  refine ⟨fun x hx => ?_, ?_⟩
  · rcases List.mem_cons.1 hx with rfl | hx
    · exact ⟨h0, h1⟩
    · exact h.1 x hx
  · simp only [Num.trimL, h.2]
    rw [if_neg fun hc => hne hc.2]
theorem num_drop_le {xs : List Int} (h : Dg xs) (i : Nat) : num (xs.drop i) ≤ num xs := by
  by_cases hi : i ≤ xs.length
  · rw [num_split xs i hi]
    have h1 := num_nonneg (h.take i)
    have h2 := num_nonneg (h.drop i)
    have hp : (0 : Int) < 10000 ^ i := Int.pow_pos (by decide)
    have : num (xs.drop i) * 1 ≤ num (xs.drop i) * 10000 ^ i := Int.mul_le_mul_of_nonneg_left (by omega) h2
    rw [Int.mul_comm] at this
    rw [Int.mul_comm (10000 ^ i)]
    omega
  · rw [List.drop_of_length_le (by omega)]; exact num_nonneg h
end Go.Num
namespace Go.Num
open Go.Lib
theorem snocInd {α : Type} {p : List α → Prop} (l : List α) (nil : p []) (append_singleton : ∀ l a, p l → p (l ++ [a])) : p l := by
  have h : ∀ m : List α, p m.reverse := by
    intro m
    induction m with
    | nil => exact nil
    | cons a m ih => rw [List.reverse_cons]; exact append_singleton _ _ ih
  simpa using h l.reverse
theorem head_app {α : Type} {l : List α} (m : List α) (h : l ≠ []) : (l ++ m).head? = l.head? := by
  cases l with
  | nil => exact absurd rfl h
  | cons a l => rfl
def isD (b : UInt8) : Prop := 48 ≤ b.toNat ∧ b.toNat ≤ 57
instance (b : UInt8) : Decidable (isD b) := by unfold isD; infer_instance
def dv (l : List UInt8) : Nat := l.foldl (fun a b => a * 10 + (b.toNat - 48)) 0
theorem dv_snoc (l : List UInt8) (b : UInt8) : dv (l ++ [b]) = dv l * 10 + (b.toNat - 48) := by simp [dv, List.foldl_append]
theorem dv_append (l m : List UInt8) : dv (l ++ m) = dv l * 10 ^ m.length + dv m := by
  induction m using snocInd with
  | nil => simp [dv]
  | append_singleton m b ih =>
    rw [← List.append_assoc, dv_snoc, ih, dv_snoc]
    simp only [List.length_append, List.length_cons, List.length_nil, Nat.pow_succ]
    grind
theorem snoc_cases {α : Type} (l : List α) : l = [] ∨ ∃ m b, l = m ++ [b] := by
  rcases List.eq_nil_or_concat l with h | ⟨m, b, h⟩
  · exact .inl h
  · exact .inr ⟨m, b, by simpa using h⟩
theorem toNat_digit {d : Nat} (h : d < 10) : (UInt8.ofNat (48 + d)).toNat = 48 + d := by
  simp only [UInt8.toNat_ofNat']; omega
theorem dec_lt {u : Nat} (h : u < 10) : decDigits u = [UInt8.ofNat (48 + u)] := by rw [decDigits, dif_pos h]
theorem dec_ge {u : Nat} (h : ¬ u < 10) : decDigits u = decDigits (u / 10) ++ [UInt8.ofNat (48 + u % 10)] := by rw [decDigits, dif_neg h]
theorem dec_ne (u : Nat) : decDigits u ≠ [] := by
  by_cases h : u < 10
  · rw [dec_lt h]; simp
  · rw [dec_ge h]; simp
theorem dec_isD (u : Nat) : ∀ b ∈ decDigits u, isD b := by
  induction u using Nat.strongRecOn with
  | _ u ih =>
    by_cases h : u < 10
    · rw [dec_lt h]
      intro b hb
      simp only [List.mem_singleton] at hb
      subst hb
      unfold isD; rw [toNat_digit h]; omega
    · rw [dec_ge h]
      intro b hb
      rcases List.mem_append.1 hb with hb | hb
      · exact ih _ (by omega) b hb
      · simp only [List.mem_singleton] at hb
        subst hb
        unfold isD; rw [toNat_digit (by omega)]; omega
theorem dv_dec (u : Nat) : dv (decDigits u) = u := by
  induction u using Nat.strongRecOn with
  | _ u ih =>
    by_cases h : u < 10
    · rw [dec_lt h]
      simp only [dv, List.foldl_cons, List.foldl_nil, toNat_digit h]; omega
    · rw [dec_ge h, dv_snoc, ih _ (by omega), toNat_digit (by omega)]; omega
theorem dv_lt {l : List UInt8} (h : ∀ b ∈ l, isD b) : dv l < 10 ^ l.length := by
  induction l using snocInd with
  | nil => simp [dv]
  | append_singleton l b ih =>
    have h1 := ih fun x hx => h x (by simp [hx])
    have h2 := h b (by simp)
    unfold isD at h2
    rw [dv_snoc]
    simp only [List.length_append, List.length_cons, List.length_nil, Nat.pow_succ]
    omega
theorem byte_ext {a b : UInt8} (h : a.toNat = b.toNat) : a = b := UInt8.toNat_inj.1 h
theorem dec_dv {l : List UInt8} (h : ∀ b ∈ l, isD b) (hne : l ≠ []) (hh : l.length = 1 ∨ l.head? ≠ some 48) : decDigits (dv l) = l := by
  induction l using snocInd with
  | nil => exact absurd rfl hne
  | append_singleton l b ih =>
    have h2 := h b (by simp)
    unfold isD at h2
    have hb : UInt8.ofNat (48 + (b.toNat - 48)) = b := byte_ext (by rw [toNat_digit (by omega)]; omega)
    rw [dv_snoc]
    by_cases hl : l = []
    · subst hl
      rw [show dv [] = 0 from rfl, dec_lt (by omega)]
      simp only [Nat.zero_mul, Nat.zero_add, hb, List.nil_append]
    · have hhl : l.head? ≠ some 48 := by
        rcases hh with hh | hh
        · exact absurd (by simpa using hh) hl
        · rw [head_app _ hl] at hh; exact hh
      have ih' := ih (fun x hx => h x (by simp [hx])) hl (.inr hhl)
      have hpos : 0 < dv l := by
        refine Nat.pos_of_ne_zero fun hc => ?_
        rw [hc, dec_lt (by decide)] at ih'
        rw [← ih'] at hhl
        exact hhl rfl
      rw [dec_ge (by omega), show (dv l * 10 + (b.toNat - 48)) / 10 = dv l from by omega, show (dv l * 10 + (b.toNat - 48)) % 10 = b.toNat - 48 from by omega, ih', hb]
theorem dec_head {u : Nat} (h : u ≠ 0) : (decDigits u).head? ≠ some 48 := by
  induction u using Nat.strongRecOn with
  | _ u ih =>
    by_cases h1 : u < 10
    · rw [dec_lt h1]
      intro hc
      simp only [List.head?_cons, Option.some.injEq] at hc
      have := congrArg UInt8.toNat hc
      rw [toNat_digit h1] at this
      have h3 : (48 : UInt8).toNat = 48 := rfl
      omega
    · rw [dec_ge h1, head_app _ (dec_ne _)]
      exact ih _ (by omega) (by omega)
theorem dec_len {u k : Nat} (hk : 1 ≤ k) : (decDigits u).length ≤ k ↔ u < 10 ^ k := by
  constructor
  · intro h
    have h1 := dv_lt (dec_isD u)
    rw [dv_dec] at h1
    exact Nat.lt_of_lt_of_le h1 (Nat.pow_le_pow_right (by decide) h)
  · intro h
    induction k generalizing u with
    | zero => omega
    | succ k ih =>
      by_cases h1 : u < 10
      · rw [dec_lt h1]; simp
      · rw [dec_ge h1]
        have hk : 1 ≤ k := by
          refine Nat.pos_of_ne_zero fun hc => ?_
          subst hc; simp at h; omega
        have := ih (u := u / 10) hk (by rw [Nat.pow_succ] at h; omega)
        simp; omega
theorem dec_pad {a d : Nat} (ha : 0 < a) {k : Nat} (hd : d < 10 ^ k) (hk : 1 ≤ k) : decDigits (a * 10 ^ k + d) = decDigits a ++ (List.replicate (k - (decDigits d).length) 48 ++ decDigits d) := by
  have hl := (dec_len hk).2 hd
  rw [← dec_dv (l := decDigits a ++ (List.replicate (k - (decDigits d).length) 48 ++ decDigits d))]
  · congr 1
    have h0 : ∀ n, dv (List.replicate n 48) = 0 := by
      intro n
      induction n with
      | zero => rfl
      | succ n ih => rw [List.replicate_succ', dv_snoc, ih]; rfl
    rw [dv_append, dv_dec, dv_append, h0, dv_dec]
    simp only [List.length_append, List.length_replicate]
    rw [show k - (decDigits d).length + (decDigits d).length = k from by omega]
    omega
  · intro b hb
    rcases List.mem_append.1 hb with hb | hb
    · exact dec_isD a b hb
    · rcases List.mem_append.1 hb with hb | hb
      · rw [List.mem_replicate] at hb
        rw [hb.2]; decide
      · exact dec_isD d b hb
  · simp [dec_ne]
  · right
    rw [head_app _ (dec_ne _)]
    exact dec_head (by omega)
@[irreducible] def MaxI : Nat := 10 ^ 200
def validB (s : List UInt8) : Bool :=
  decide ((trimPrefix s [45] ≠ [] ∧ (trimPrefix s [45]).length ≤ 200 ∧ ∀ b ∈ trimPrefix s [45], isD b) ∧ (s = [48] ∨ (trimPrefix s [45]).head? ≠ some 48))
theorem trim_neg (l : List UInt8) : trimPrefix (45 :: l) [45] = l := by simp [trimPrefix, hasPrefix]
theorem trim_pos {l : List UInt8} (h : l.head? ≠ some 45) : trimPrefix l [45] = l := by
  cases l with
  | nil => simp [trimPrefix, hasPrefix]
  | cons a l =>
    have : a ≠ 45 := by simpa using h
    simp [trimPrefix, hasPrefix, this.symm]
theorem dec_head45 (u : Nat) : (decDigits u).head? ≠ some 45 := by
  intro hc
  have := dec_isD u 45 (List.mem_of_mem_head? hc)
  revert this; decide
theorem trim_itoa (z : Int) : trimPrefix (itoa z) [45] = decDigits z.natAbs := by
  unfold itoa
  split
  · exact trim_neg _
  · rw [trim_pos (dec_head45 _)]
    congr 1; omega
theorem valid_itoa (z : Int) : validB (itoa z) = decide (z.natAbs < MaxI) := by
  unfold validB
  rw [trim_itoa]
  rw [decide_eq_decide]
  have h1 := dec_ne z.natAbs
  have h2 := dec_isD z.natAbs
  have h3 : (decDigits z.natAbs).length ≤ 200 ↔ z.natAbs < MaxI := by unfold MaxI; exact dec_len (by decide)
  have h4 : itoa z = [48] ∨ (decDigits z.natAbs).head? ≠ some 48 := by
    by_cases hz : z = 0
    · left; subst hz; unfold itoa; rw [if_neg (by decide)]; exact dec_lt (by decide)
    · right; exact dec_head (by omega)
  constructor
  · exact fun h => h3.1 h.1.2.1
  · exact fun h => ⟨⟨h1, h3.2 h, h2⟩, h4⟩
theorem valid_ex {s : List UInt8} (h : validB s = true) : ∃ z : Int, z.natAbs < MaxI ∧ s = itoa z := by
  have h' := h
  unfold validB at h
  obtain ⟨⟨h1, h2, h3⟩, h4⟩ := of_decide_eq_true h
  by_cases hs : s.head? = some 45
  · obtain ⟨l, rfl⟩ : ∃ l, s = 45 :: l := by
      cases s with
      | nil => simp at hs
      | cons a l => simp at hs; exact ⟨l, by rw [hs]⟩
    rw [trim_neg] at h1 h2 h3 h4
    have h5 : l.head? ≠ some 48 := by
      rcases h4 with h4 | h4
      · simp at h4
      · exact h4
    have h6 := dec_dv h3 h1 (.inr h5)
    have h7 : 0 < dv l := by
      refine Nat.pos_of_ne_zero fun hc => ?_
      rw [hc, dec_lt (by decide)] at h6
      rw [← h6] at h5; exact h5 rfl
    have h8 : 45 :: l = itoa (-(dv l : Int)) := by
      unfold itoa
      rw [if_pos (by omega), show (-(dv l : Int)).natAbs = dv l from by omega, h6]
    refine ⟨_, ?_, h8⟩
    rw [h8, valid_itoa] at h'
    exact of_decide_eq_true h'
  · rw [trim_pos hs] at h1 h2 h3 h4
    have h6 := dec_dv h3 h1 (by
      rcases h4 with h4 | h4
      · left; rw [h4]; rfl
      · exact .inr h4)
    have h8 : s = itoa (dv s : Int) := by
      unfold itoa
      rw [if_neg (by omega), Int.toNat_natCast, h6]
    refine ⟨_, ?_, h8⟩
    rw [h8, valid_itoa] at h'
    exact of_decide_eq_true h'
theorem itoa_inj {x y : Int} (h : itoa x = itoa y) : x = y := by
  have h1 := congrArg (fun l => dv (trimPrefix l [45])) h
  simp only [trim_itoa, dv_dec] at h1
  have h2 := congrArg List.head? h
  by_cases hx : x < 0
  · by_cases hy : y < 0
    · omega
    · unfold itoa at h2
      rw [if_pos hx, if_neg hy] at h2
      exact absurd h2.symm (dec_head45 _)
  · by_cases hy : y < 0
    · unfold itoa at h2
      rw [if_neg hx, if_pos hy] at h2
      exact absurd h2 (dec_head45 _)
    · omega
end Go.Num
namespace Go.Num
open Go.Lib
theorem decFrom_dv (l : List UInt8) (h : ∀ b ∈ l, isD b) (acc : Nat) : decFrom acc l = some (acc * 10 ^ l.length + dv l) := by
  induction l generalizing acc with
  | nil => simp [decFrom, dv]
  | cons b r ih =>
    have hb := h b (by simp)
    have hdv : digitVal b = some (b.toNat - 48) := by unfold digitVal; unfold isD at hb; rw [if_pos hb]
    rw [decFrom, hdv]
    simp only
    rw [ih (fun x hx => h x (by simp [hx]))]
    have : dv (b :: r) = dv [b] * 10 ^ r.length + dv r := dv_append [b] r
    rw [this]
    have h1 : dv [b] = b.toNat - 48 := by simp [dv]
    rw [h1]
    simp only [List.length_cons, Nat.pow_succ]
    congr 1
    grind
theorem atoi_dv {l : List UInt8} (h : ∀ b ∈ l, isD b) (hne : l ≠ []) : atoi l = some (dv l : Int) := by
  cases l with
  | nil => exact absurd rfl hne
  | cons b r =>
    have hb := h b (by simp)
    unfold isD at hb
    have h1 : (b == 45) = false := by
      rw [beq_eq_false_iff_ne]; rintro rfl; revert hb; decide
    have h2 : (b == 43) = false := by
      rw [beq_eq_false_iff_ne]; rintro rfl; revert hb; decide
    unfold atoi
    simp only [h1, h2]
    unfold decNat
    have := decFrom_dv (b :: r) h 0
    simp [this]
theorem dv_seg {D : List UInt8} {k f : Nat} (hk : k ≤ D.length) (hf : f ≤ k) : dv (D.drop f) = dv ((D.take k).drop f) * 10 ^ (D.length - k) + dv (D.drop k) := by
  have : D.drop f = (D.take k).drop f ++ D.drop k := by
    have h1 : D = D.take k ++ D.drop k := (List.take_append_drop k D).symm
    conv => lhs; rw [h1]
    rw [List.drop_append_of_le_length (by simp; omega)]
  rw [this, dv_append]
  simp
theorem num_snoc (xs : List Int) (n : Int) : num (xs ++ [n]) = num xs + 10000 ^ xs.length * n := by
  rw [num_append]; simp [num]
end Go.Num
namespace Go.Num
open Go.Lib
theorem dv_cons (b : UInt8) (r : List UInt8) : dv (b :: r) = (b.toNat - 48) * 10 ^ r.length + dv r := by
  have : dv (b :: r) = dv [b] * 10 ^ r.length + dv r := dv_append [b] r
  rw [this]; simp [dv]
theorem parse_dv (l : List UInt8) (h : ∀ b ∈ l, isD b) (acc : Nat) (ha : acc < 18446744073709551616) :
    parseUint10 acc l = if acc * 10 ^ l.length + dv l < 18446744073709551616 then .ok (acc * 10 ^ l.length + dv l) else .range := by
  induction l generalizing acc with
  | nil => simp [parseUint10, dv, ha]
  | cons b r ih =>
    have hb := h b (by simp)
    have hb' := hb
    unfold isD at hb'
    have hp : 1 ≤ 10 ^ r.length := Nat.one_le_pow _ _ (by decide)
    have hv : acc * 10 ^ (b :: r).length + dv (b :: r) = (acc * 10 + (b.toNat - 48)) * 10 ^ r.length + dv r := by
      rw [dv_cons]; simp only [List.length_cons, Nat.pow_succ]; grind
    have hge : acc * 10 + (b.toNat - 48) ≤ (acc * 10 + (b.toNat - 48)) * 10 ^ r.length := Nat.le_mul_of_pos_right _ hp
    rw [hv, parseUint10, if_pos hb']
    split
    · rw [if_neg (by omega)]
    · split
      · rw [if_neg (by omega)]
      · exact ih (fun x hx => h x (by simp [hx])) _ (by omega)
theorem atoiAll_itoa (z : Int) : atoiAll (itoa z) = if -9223372036854775808 ≤ z ∧ z ≤ 9223372036854775807 then .ok z else .range := by
  have hD := dec_isD z.natAbs
  have hne := dec_ne z.natAbs
  have hpm : parseMag (decDigits z.natAbs) = if z.natAbs < 18446744073709551616 then .ok z.natAbs else .range := by
    unfold parseMag
    rw [if_neg hne, parse_dv _ hD 0 (by decide), dv_dec]
    simp
  by_cases hz : z < 0
  · have hi : itoa z = 45 :: decDigits z.natAbs := by unfold itoa; rw [if_pos hz]
    rw [hi]
    unfold atoiAll
    simp only [show (45 : UInt8).toNat = 45 from rfl, or_true, if_true, hpm]
    by_cases h1 : z.natAbs < 18446744073709551616
    · rw [if_pos h1]
      simp only [not_true, false_and, if_false, true_and, if_true]
      by_cases h2 : 9223372036854775808 < z.natAbs
      · rw [if_pos h2, if_neg (by omega)]
      · rw [if_neg h2, if_pos (by omega)]
        congr 1; omega
    · rw [if_neg h1]
      simp only
      rw [if_neg (by omega)]
  · have hi : itoa z = decDigits z.natAbs := by unfold itoa; rw [if_neg hz, show z.toNat = z.natAbs from by omega]
    rw [hi]
    obtain ⟨c, r, hcr⟩ := List.exists_cons_of_ne_nil hne
    have hc := hD c (by rw [hcr]; simp)
    unfold isD at hc
    rw [hcr] at hpm ⊢
    unfold atoiAll
    simp only
    rw [if_neg (by omega : ¬ (c.toNat = 43 ∨ c.toNat = 45)), hpm]
    have h45 : ¬ c.toNat = 45 := by omega
    by_cases h1 : z.natAbs < 18446744073709551616
    · rw [if_pos h1]
      simp only [h45, not_false_eq_true, true_and, false_and, if_false]
      by_cases h2 : 9223372036854775808 ≤ z.natAbs
      · rw [if_pos h2, if_neg (by omega)]
      · rw [if_neg h2, if_pos (by omega)]
        congr 1; omega
    · rw [if_neg h1]
      simp only
      rw [if_neg (by omega)]
end Go.Num
