/-
  Contracts of functions of the program, and plain lemmas on numbers and strings. By an AI agent.
-/
import Derived.Test.YtocilcjojdjfdaaGreatDoorLaw
set_option linter.unusedSimpArgs false
set_option linter.unusedVariables false
namespace Go.Proofs.YtocilcjojdjfdaaGreatDoor
open Go Go.Eng Go.Proofs Go.Num Go.RowKit
set_option maxRecDepth 100000
set_option linter.unusedVariables false
def dgs (s : List UInt8) : List Int := s.map fun c => ((c.toNat % 10 : Nat) : Int)
def madeNeg : List UInt8 → Bool
  | [] => false
  | c :: _ => decide (128 ≤ c.toNat)
def madeV (s : List UInt8) (m : Nat) : Int := sg (madeNeg s) (num10 (dgs (s.take m)))
theorem dgs_Dg (s : List UInt8) : Dg10 (dgs s) := by
  intro d hd
  obtain ⟨c, _, rfl⟩ := List.mem_map.1 hd
  omega
theorem madeV_lt (s : List UInt8) (m : Nat) : (madeV s m).natAbs < 10 ^ m := by
  unfold madeV
  rw [natAbs_sg]
  have h1 := num10_lt (dgs_Dg (s.take m))
  have h2 := num10_nonneg (dgs_Dg (s.take m))
  have hl : (dgs (s.take m)).length ≤ m := by unfold dgs; rw [List.length_map, List.length_take]; omega
  have h3 : (10 : Nat) ^ (dgs (s.take m)).length ≤ 10 ^ m := Nat.pow_le_pow_right (by decide) hl
  have h4 : ((10 ^ (dgs (s.take m)).length : Nat) : Int) = (10 : Int) ^ (dgs (s.take m)).length := by simp
  omega
theorem dig_eq (b : UInt8) : (IntKind.i64.wrap (b.toNat : Int)).tmod 10 = ((b.toNat % 10 : Nat) : Int) := by
  have := b.toNat_lt
  rw [w64 (by omega) (by omega), Int.tmod_eq_emod_of_nonneg (by omega)]
  omega
theorem c_MadeV {s : List UInt8} {m : Nat} {w : World} (hm : m ≤ 1000) :
    Calls Tryz.prog 13 #[str s, .int .i64 m] w (Ret fun r w' => Ext w w' ∧ r = str (Lib.itoa (madeV s m))) := by
  apply e_ref03_Made
  unfold s_ref03_Made
  obtain ⟨I, hI⟩ : ∃ I : Value → Value → World → Prop, I = (fun l i W => ∃ k : Nat, k ≤ m ∧ k ≤ s.length ∧ i = .int .i64 k ∧ Owns W w.heap.size 3 l ((dgs (s.take k)).map iv) ∧ Ext w W) := ⟨_, rfl⟩
  obtain ⟨μ, hμ⟩ : ∃ μ : Value → Value → World → Nat, μ = (fun _ i _ => match i with | .int _ i' => m - i'.toNat | _ => 0) := ⟨_, rfl⟩
  refine Lp2.mk I μ (by rw [hI]; exact ⟨0, by omega, by omega, rfl, Owns.nil _ _ _, .refl _⟩) ?_
  intro l i W hh
  rw [hI] at hh
  obtain ⟨k, hkm, hks, rfl, ho, hW⟩ := hh
  have hwsz := hW.size
  have hlk : (dgs (s.take k)).length = k := by unfold dgs; rw [List.length_map, List.length_take]; omega
  have fin : ∀ b : Bool, b = madeNeg s → ¬ (k < s.length ∧ k < m) → Cl Tryz.prog 37 #[l] W.drew (Pk (Ret fun r w' => Ext w w' ∧ r = str (Lib.itoa (madeV s m)))) fun t38 w_1 =>
    Cl Tryz.prog 36 #[.bool b, t38] w_1 (Pk (Ret fun r w' => Ext w w' ∧ r = str (Lib.itoa (madeV s m)))) fun t39 w_2 =>
      ExP t39 0 fun t40 => ExP t39 1 fun t41 => Ret (fun r w' => Ext w w' ∧ r = str (Lib.itoa (madeV s m))) (Ending.returned t40) w_2 := by
    rintro _ rfl hstop
    have hdr : Ext W W.drew := Ext.dr (.refl _)
    have hsame : s.take k = s.take m := by
      by_cases h : k = m
      · rw [h]
      · rw [List.take_of_length_le (by omega), List.take_of_length_le (by omega)]
    refine Cl_i n_ref03_trim (c_rtrim (xs := dgs (s.take k)) (ho.ext hdr).slAt (by omega)) ?_
    rintro v _ ⟨hv, rfl, _⟩
    refine Cl_i n_ref03_text (c_rtext (neg := madeNeg s) hv (Nrm10.trimL (dgs_Dg _)) (by have := trimL_len (dgs (s.take k)); omega)) ?_
    rintro _ W2 ⟨hW2, rfl⟩
    ((try simp -dsimp [go_sem]); repeat (simp -dsimp (disch := omega) only [w64, wu64, dlt_t, dlt_f, dle_t, dle_f, deq_t, deq_f, beq_t, beq_f, bne_t, bne_f, nlt_t, nlt_f, nle_t, nle_f, neq_t, neq_f, nbeq_t, nbeq_f, nbne_t, nbne_f, it_t, it_f, dit_t, dit_f]; try simp -dsimp [go_sem]))
    refine Ret.mk ⟨(hW.tr hdr).tr hW2, ?_⟩
    rw [num10_trimL, hsame]
    rfl
  by_cases h1 : k < s.length
  · by_cases h2 : k < m
    · have step : ∀ d : Int, d = ((s[k].toNat % 10 : Nat) : Int) → Bs Tryz.prog 44 1 [(0, .int .i64 d)] W fun t26 w =>
        Bt Tryz.prog .append #[44, 44] 44 #[l, t26] w fun t27 w =>
          I t27 (Value.int IntKind.i64 (↑k + 1)) w ∧ μ t27 (Value.int IntKind.i64 (↑k + 1)) w < μ l (Value.int IntKind.i64 ↑k) W := by
        intro d hd0
        refine ap_one sliI (by decide) ho rfl rfl (by simp [hlk]; omega) hwsz fun v' W' ho' hb' _ => ?_
        rw [hI, hμ]
        refine ⟨⟨k + 1, by omega, by omega, by push_cast; rfl, ?_, hW.trans hb'⟩, by simp only []; omega⟩
        have hst : dgs (s.take (k + 1)) = dgs (s.take k) ++ [d] := by
          unfold dgs
          rw [List.take_add_one, List.getElem?_eq_getElem h1, List.map_append, hd0]
          rfl
        rw [hst, List.map_append]
        exact ho'
      ((try simp -dsimp [go_sem, size_str]); repeat (simp -dsimp (disch := omega) only [w64, wu64, dlt_t, dlt_f, dle_t, dle_f, deq_t, deq_f, beq_t, beq_f, bne_t, bne_f, nlt_t, nlt_f, nle_t, nle_f, neq_t, neq_f, nbeq_t, nbeq_f, nbne_t, nbne_f, it_t, it_f, dit_t, dit_f]; try simp -dsimp [go_sem, size_str]))
      refine step _ ?_
      rw [dig_eq]
      rfl
    · ((try simp -dsimp [go_sem, size_str]); repeat (simp -dsimp (disch := omega) only [w64, wu64, dlt_t, dlt_f, dle_t, dle_f, deq_t, deq_f, beq_t, beq_f, bne_t, bne_f, nlt_t, nlt_f, nle_t, nle_f, neq_t, neq_f, nbeq_t, nbeq_f, nbne_t, nbne_f, it_t, it_f, dit_t, dit_f]; try simp -dsimp [go_sem, size_str]))
      cases s with
      | nil => simp at h1
      | cons c s =>
        ((try simp -dsimp [go_sem, size_str]); repeat (simp -dsimp (disch := omega) only [w64, wu64, dlt_t, dlt_f, dle_t, dle_f, deq_t, deq_f, beq_t, beq_f, bne_t, bne_f, nlt_t, nlt_f, nle_t, nle_f, neq_t, neq_f, nbeq_t, nbeq_f, nbne_t, nbne_f, it_t, it_f, dit_t, dit_f]; try simp -dsimp [go_sem, size_str]))
        refine fin _ ?_ (by omega)
        show decide ((128 : Int) ≤ (c.toNat : Int)) = decide (128 ≤ c.toNat)
        rw [decide_eq_decide]; omega
  · ((try simp -dsimp [go_sem, size_str]); repeat (simp -dsimp (disch := omega) only [w64, wu64, dlt_t, dlt_f, dle_t, dle_f, deq_t, deq_f, beq_t, beq_f, bne_t, bne_f, nlt_t, nlt_f, nle_t, nle_f, neq_t, neq_f, nbeq_t, nbeq_f, nbne_t, nbne_f, it_t, it_f, dit_t, dit_f]; try simp -dsimp [go_sem, size_str]))
    cases s with
    | nil =>
      ((try simp -dsimp [go_sem, size_str]); repeat (simp -dsimp (disch := omega) only [w64, wu64, dlt_t, dlt_f, dle_t, dle_f, deq_t, deq_f, beq_t, beq_f, bne_t, bne_f, nlt_t, nlt_f, nle_t, nle_f, neq_t, neq_f, nbeq_t, nbeq_f, nbne_t, nbne_f, it_t, it_f, dit_t, dit_f]; try simp -dsimp [go_sem, size_str]))
      exact fin _ rfl (by omega)
    | cons c s =>
      ((try simp -dsimp [go_sem, size_str]); repeat (simp -dsimp (disch := omega) only [w64, wu64, dlt_t, dlt_f, dle_t, dle_f, deq_t, deq_f, beq_t, beq_f, bne_t, bne_f, nlt_t, nlt_f, nle_t, nle_f, neq_t, neq_f, nbeq_t, nbeq_f, nbne_t, nbne_f, it_t, it_f, dit_t, dit_f]; try simp -dsimp [go_sem, size_str]))
      refine fin _ ?_ (by omega)
      show decide ((128 : Int) ≤ (c.toNat : Int)) = decide (128 ≤ c.toNat)
      rw [decide_eq_decide]; omega
end Go.Proofs.YtocilcjojdjfdaaGreatDoor
