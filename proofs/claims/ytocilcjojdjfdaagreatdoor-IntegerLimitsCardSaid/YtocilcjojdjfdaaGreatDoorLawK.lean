/-
  Contracts of functions of the program, and plain lemmas on numbers and strings. By an AI agent.
-/
import Derived.Test.YtocilcjojdjfdaaGreatDoorLawG
import Derived.Test.YtocilcjojdjfdaaGreatDoorMadV
set_option linter.unusedSimpArgs false
set_option linter.unusedVariables false
namespace Go.Proofs.YtocilcjojdjfdaaGreatDoor
open Go Go.Eng Go.Proofs Go.Num Go.RowKit
set_option maxRecDepth 100000
set_option linter.unusedVariables false
@[irreducible] def p10 (n : Nat) : Nat := 10 ^ n
theorem p10_pos (n : Nat) : 1 ≤ p10 n := by unfold p10; exact Nat.pow_pos (by decide)
theorem p10_succ (n : Nat) : p10 (n + 1) = p10 n * 10 := by unfold p10; exact Nat.pow_succ 10 n
theorem p10_add (m n : Nat) : p10 (m + n) = p10 m * p10 n := by unfold p10; exact Nat.pow_add 10 m n
theorem p10_mono {m n : Nat} (h : m ≤ n) : p10 m ≤ p10 n := by unfold p10; exact Nat.pow_le_pow_right (by decide) h
theorem p10_max : p10 200 = MaxI := by unfold p10 MaxI; rfl
theorem p10_lt {m : Nat} (h : m < 200) : (p10 m : Int) < MaxI := by
  have h1 := p10_mono (show m + 1 ≤ 200 by omega)
  rw [p10_succ, p10_max] at h1
  have := p10_pos m
  omega
theorem two_lt {n : Nat} (h : n < 200) : 2 * (p10 n : Int) < MaxI := by
  have h1 := p10_mono (show n + 1 ≤ 200 by omega)
  rw [p10_succ, p10_max] at h1
  have := p10_pos n
  omega
theorem itoa_pos {l : List UInt8} (h : ∀ b ∈ l, isD b) (hne : l ≠ []) (hh : l.length = 1 ∨ l.head? ≠ some 48) : Lib.itoa (dv l : Int) = l := by
  unfold Lib.itoa
  rw [if_neg (by omega), Int.toNat_natCast, dec_dv h hne hh]
theorem itoa_neg {l : List UInt8} (h : ∀ b ∈ l, isD b) (hne : l ≠ []) (hh : l.length = 1 ∨ l.head? ≠ some 48) (h0 : 0 < dv l) : Lib.itoa (-(dv l : Int)) = 45 :: l := by
  unfold Lib.itoa
  rw [if_pos (by omega), show (-(dv l : Int)).natAbs = dv l from by omega, dec_dv h hne hh]
theorem nines_isD (n : Nat) : ∀ b ∈ List.replicate n (57 : UInt8), isD b := by
  intro b hb
  rw [List.eq_of_mem_replicate hb]; decide
theorem nines_dv (n : Nat) : dv (List.replicate n 57) + 1 = p10 n := by
  induction n with
  | zero => unfold p10; rfl
  | succ n ih => rw [List.replicate_succ', dv_snoc, p10_succ, ← ih]; show dv _ * 10 + 9 + 1 = _; omega
theorem nines_ne {n : Nat} (h : 1 ≤ n) : List.replicate n (57 : UInt8) ≠ [] := by intro hc; have := congrArg List.length hc; simp at this; omega
theorem nines_head (n : Nat) : (List.replicate n (57 : UInt8)).head? ≠ some 48 := by
  intro hc
  have := List.eq_of_mem_replicate (List.mem_of_mem_head? hc)
  revert this; decide
theorem nines_itoa {n : Nat} (h : 1 ≤ n) : List.replicate n (57 : UInt8) = Lib.itoa ((p10 n : Int) - 1) := by
  have h1 := nines_dv n
  rw [show (p10 n : Int) - 1 = (dv (List.replicate n 57) : Int) from by omega]
  exact (itoa_pos (nines_isD n) (nines_ne h) (.inr (nines_head n))).symm
theorem nines_neg {n : Nat} (h : 1 ≤ n) : 45 :: List.replicate n (57 : UInt8) = Lib.itoa (-((p10 n : Int) - 1)) := by
  have h1 := nines_dv n
  have h2 := p10_mono h
  have h3 : p10 1 = 10 := by unfold p10; rfl
  rw [show (p10 n : Int) - 1 = (dv (List.replicate n 57) : Int) from by omega]
  exact (itoa_neg (nines_isD n) (nines_ne h) (.inr (nines_head n)) (by omega)).symm
theorem one_nines (n : Nat) : 49 :: List.replicate n (57 : UInt8) = Lib.itoa (2 * (p10 n : Int) - 1) := by
  have h1 := nines_dv n
  have h2 : dv (49 :: List.replicate n (57 : UInt8)) = p10 n + dv (List.replicate n 57) := by
    have := dv_append [49] (List.replicate n (57 : UInt8))
    rw [List.length_replicate] at this
    have h3 : dv [49] * 10 ^ n = p10 n := by unfold p10; show 1 * 10 ^ n = _; omega
    rw [h3] at this
    exact this
  rw [show 2 * (p10 n : Int) - 1 = (dv (49 :: List.replicate n (57 : UInt8)) : Int) from by omega]
  refine (itoa_pos ?_ (by simp) (.inr (by simp))).symm
  intro b hb
  rcases List.mem_cons.1 hb with rfl | hb
  · decide
  · exact nines_isD n b hb
theorem str_app (a b : List UInt8) : (ByteArray.mk a.toArray) ++ (ByteArray.mk b.toArray) = ⟨(a ++ b).toArray⟩ := by
  apply ByteArray.ext; simp [ByteArray.data_append]
theorem Bn_app {a b : List UInt8} {c : Bool} {w : World} {K : Value → World → Prop} (h : a.length + b.length ≤ 9223372036854775807) (hk : K (str (a ++ b)) w) : Bn Tryz.prog .add 9 c (str a) (str b) w K := by
  ((try simp -dsimp [go_sem, size_str, str_app]); repeat (simp -dsimp (disch := omega) only [w64, wu64, dlt_t, dlt_f, dle_t, dle_f, deq_t, deq_f, beq_t, beq_f, bne_t, bne_f, nlt_t, nlt_f, nle_t, nle_f, neq_t, neq_f, nbeq_t, nbeq_f, nbne_t, nbne_f, it_t, it_f, dit_t, dit_f]; try simp -dsimp [go_sem, size_str, str_app]))
  exact hk
theorem Bn_cons {a : UInt8} {b : List UInt8} {c : Bool} {w : World} {K : Value → World → Prop} (h : b.length ≤ 1000000) (hk : K (str (a :: b)) w) : Bn Tryz.prog .add 9 c (str [a]) (str b) w K :=
  Bn_app (by simp; omega) hk
theorem Bn_addI {x y : Int} {c : Bool} {w : World} {K : Value → World → Prop} (h1 : -9223372036854775808 ≤ x + y) (h2 : x + y ≤ 9223372036854775807) (hk : K (.int .i64 (x + y)) w) : Bn Tryz.prog .add 3 c (.int .i64 x) (.int .i64 y) w K := by
  ((try simp -dsimp [go_sem]); repeat (simp -dsimp (disch := omega) only [w64, wu64, dlt_t, dlt_f, dle_t, dle_f, deq_t, deq_f, beq_t, beq_f, bne_t, bne_f, nlt_t, nlt_f, nle_t, nle_f, neq_t, neq_f, nbeq_t, nbeq_f, nbne_t, nbne_f, it_t, it_f, dit_t, dit_f]; try simp -dsimp [go_sem]))
  exact hk
theorem Bn_lssI {x y : Int} {c : Bool} {w : World} {K : Value → World → Prop} (hk : K (.bool (decide (x < y))) w) : Bn Tryz.prog .lss 3 c (.int .i64 x) (.int .i64 y) w K := by
  ((try simp -dsimp [go_sem]); repeat (simp -dsimp (disch := omega) only [w64, wu64, dlt_t, dlt_f, dle_t, dle_f, deq_t, deq_f, beq_t, beq_f, bne_t, bne_f, nlt_t, nlt_f, nle_t, nle_f, neq_t, neq_f, nbeq_t, nbeq_f, nbne_t, nbne_f, it_t, it_f, dit_t, dit_f]; try simp -dsimp [go_sem]))
  exact hk
theorem Bn_lssT {x y : Int} {c : Bool} {w : World} {K : Value → World → Prop} (h : x < y) (hk : K (.bool true) w) : Bn Tryz.prog .lss 3 c (.int .i64 x) (.int .i64 y) w K := by
  ((try simp -dsimp [go_sem]); repeat (simp -dsimp (disch := omega) only [w64, wu64, dlt_t, dlt_f, dle_t, dle_f, deq_t, deq_f, beq_t, beq_f, bne_t, bne_f, nlt_t, nlt_f, nle_t, nle_f, neq_t, neq_f, nbeq_t, nbeq_f, nbne_t, nbne_f, it_t, it_f, dit_t, dit_f]; try simp -dsimp [go_sem]))
  exact hk
theorem Bn_lssF {x y : Int} {c : Bool} {w : World} {K : Value → World → Prop} (h : ¬ x < y) (hk : K (.bool false) w) : Bn Tryz.prog .lss 3 c (.int .i64 x) (.int .i64 y) w K := by
  ((try simp -dsimp [go_sem]); repeat (simp -dsimp (disch := omega) only [w64, wu64, dlt_t, dlt_f, dle_t, dle_f, deq_t, deq_f, beq_t, beq_f, bne_t, bne_f, nlt_t, nlt_f, nle_t, nle_f, neq_t, neq_f, nbeq_t, nbeq_f, nbne_t, nbne_f, it_t, it_f, dit_t, dit_f]; try simp -dsimp [go_sem]))
  exact hk
theorem r_bad {w : World} {f : FuncId} {args : Array Value} {z : Int} (h : Calls Tryz.prog f args w (Ret fun r w' => Ext w w' ∧ r = resI z)) (hz : (MaxI : Int) ≤ z ∨ z ≤ -MaxI) : Calls Tryz.prog f args w (Ret fun r w' => Ext w w' ∧ r = .tuple #[str [], .int .i64 30]) :=
  Ret.lit h (if_neg (by omega))
theorem c_nines {n : Nat} {l : List UInt8} {w : World} (hn : n ≤ 1000) (hl : l = List.replicate n (57 : UInt8)) : Calls Tryz.prog 22 #[.int .i64 n] w (Ret fun r w' => Ext w w' ∧ r = str l) := by
  apply e_law03_nines
  unfold s_law03_nines
  obtain ⟨I, hI⟩ : ∃ I : Value → Value → World → Prop, I = (fun o i W => W = w ∧ ∃ (k : Nat) (l : List UInt8), k ≤ n ∧ i = .int .i64 k ∧ l = List.replicate k 57 ∧ o = str l) := ⟨_, rfl⟩
  obtain ⟨μ, hμ⟩ : ∃ μ : Value → Value → World → Nat, μ = (fun _ i _ => match i with | .int _ i' => n - i'.toNat | _ => 0) := ⟨_, rfl⟩
  refine Lp2.mk I μ (by rw [hI]; exact ⟨rfl, 0, [], by omega, rfl, rfl, rfl⟩) ?_
  intro o i W hh
  rw [hI] at hh
  obtain ⟨rfl, k, l', hk, rfl, hl', rfl⟩ := hh
  have hll : l'.length = k := by rw [hl']; simp
  by_cases h : k < n
  · ((try simp -dsimp [go_sem, str_app, size_str]); repeat (simp -dsimp (disch := omega) only [w64, wu64, dlt_t, dlt_f, dle_t, dle_f, deq_t, deq_f, beq_t, beq_f, bne_t, bne_f, nlt_t, nlt_f, nle_t, nle_f, neq_t, neq_f, nbeq_t, nbeq_f, nbne_t, nbne_f, it_t, it_f, dit_t, dit_f]; try simp -dsimp [go_sem, str_app, size_str]))
    rw [hI, hμ]
    exact ⟨⟨rfl, k + 1, l' ++ [57], by omega, by push_cast; rfl, by rw [List.replicate_succ', hl'], rfl⟩, by simp only []; omega⟩
  · have e : l = l' := by rw [hl, hl', show k = n from by omega]
    ((try simp -dsimp [go_sem]); repeat (simp -dsimp (disch := omega) only [w64, wu64, dlt_t, dlt_f, dle_t, dle_f, deq_t, deq_f, beq_t, beq_f, bne_t, bne_f, nlt_t, nlt_f, nle_t, nle_f, neq_t, neq_f, nbeq_t, nbeq_f, nbne_t, nbne_f, it_t, it_f, dit_t, dit_f]; try simp -dsimp [go_sem]))
    exact Ret.mk ⟨Ext.refl _, by rw [e]⟩
def pickN (c : Int) : Nat := ((if c < 0 then -(c + 1) else c) % 200).toNat
theorem pickN_lt (c : Int) : pickN c < 200 := by unfold pickN; omega
theorem c_pick {c : Int} {w : World} (h0 : -9223372036854775808 ≤ c) (h1 : c ≤ 9223372036854775807) : Calls Tryz.prog 23 #[.int .i64 c, .int .i64 200] w (Ret fun r w' => Ext w w' ∧ r = .int .i64 (pickN c)) := by
  apply e_law03_pick
  unfold s_law03_pick
  have key : ∀ d : Int, 0 ≤ d → d.tmod 200 = ((d % 200).toNat : Int) := by
    intro d hd
    have h2 := Int.tmod_eq_emod_of_nonneg (b := 200) hd
    omega
  by_cases h : c < 0
  · ((try simp -dsimp [go_sem]); repeat (simp -dsimp (disch := omega) only [w64, wu64, dlt_t, dlt_f, dle_t, dle_f, deq_t, deq_f, beq_t, beq_f, bne_t, bne_f, nlt_t, nlt_f, nle_t, nle_f, neq_t, neq_f, nbeq_t, nbeq_f, nbne_t, nbne_f, it_t, it_f, dit_t, dit_f]; try simp -dsimp [go_sem]))
    refine Ret.mk ⟨.refl _, ?_⟩
    have := key (-(c + 1)) (by omega)
    rw [Int.neg_tmod] at this
    unfold pickN
    rw [if_pos h, this]
  · ((try simp -dsimp [go_sem]); repeat (simp -dsimp (disch := omega) only [w64, wu64, dlt_t, dlt_f, dle_t, dle_f, deq_t, deq_f, beq_t, beq_f, bne_t, bne_f, nlt_t, nlt_f, nle_t, nle_f, neq_t, neq_f, nbeq_t, nbeq_f, nbne_t, nbne_f, it_t, it_f, dit_t, dit_f]; try simp -dsimp [go_sem]))
    refine Ret.mk ⟨.refl _, ?_⟩
    unfold pickN
    rw [if_neg h, key c (by omega)]
end Go.Proofs.YtocilcjojdjfdaaGreatDoor
