/-
  Contracts of functions of the program, and plain lemmas on numbers and strings. By an AI agent.
-/
import Derived.Test.YtocilcjojdjfdaaGreatDoorEngP
set_option linter.unusedSimpArgs false
set_option linter.unusedVariables false
namespace Go.Eng
open Go Go.RowKit Go.Proofs
section
variable {P : Program} {w : World} {K : Value → World → Prop} {t u T : TypeId} {c : Bool} {x y : Int}
theorem Bt_lenL {a : Option Addr} {n cap : Nat} (hs : ∃ e, P.underlying u = some (.slice e)) (hk : K (.int .i64 n) w) : Bt P .len #[u] T #[.slice a n cap] w K := by
  obtain ⟨e, hs⟩ := hs
  ((try simp -dsimp [go_sem, hs]); repeat (simp -dsimp (disch := omega) only [w64, wu64, dlt_t, dlt_f, dle_t, dle_f, deq_t, deq_f, beq_t, beq_f, bne_t, bne_f, nlt_t, nlt_f, nle_t, nle_f, neq_t, neq_f, nbeq_t, nbeq_f, nbne_t, nbne_f, it_t, it_f, dit_t, dit_f]; try simp -dsimp [go_sem, hs])); exact hk
theorem Bn_rm (h0 : 0 ≤ x) (hy : 0 < y) (hk : K (.int .i64 (x % y)) w) : Bn P .rem t c (.int .i64 x) (.int .i64 y) w K := by
  have e := Int.tmod_eq_emod_of_nonneg (b := y) h0
  ((try simp -dsimp [go_sem, e]); repeat (simp -dsimp (disch := omega) only [w64, wu64, dlt_t, dlt_f, dle_t, dle_f, deq_t, deq_f, beq_t, beq_f, bne_t, bne_f, nlt_t, nlt_f, nle_t, nle_f, neq_t, neq_f, nbeq_t, nbeq_f, nbne_t, nbne_f, it_t, it_f, dit_t, dit_f]; try simp -dsimp [go_sem, e])); exact hk
theorem Bn_qu (h0 : 0 ≤ x) (h1 : x ≤ 9223372036854775807) (hy : 0 < y) (hk : K (.int .i64 (x / y)) w) : Bn P .quo t c (.int .i64 x) (.int .i64 y) w K := by
  have e := Int.tdiv_eq_ediv_of_nonneg (b := y) h0
  have b0 : 0 ≤ x / y := Int.ediv_nonneg h0 (by omega)
  have b1 : x / y ≤ x := Int.ediv_le_self y h0
  ((try simp -dsimp [go_sem, e]); repeat (simp -dsimp (disch := omega) only [w64, wu64, dlt_t, dlt_f, dle_t, dle_f, deq_t, deq_f, beq_t, beq_f, bne_t, bne_f, nlt_t, nlt_f, nle_t, nle_f, neq_t, neq_f, nbeq_t, nbeq_f, nbne_t, nbne_f, it_t, it_f, dit_t, dit_f]; try simp -dsimp [go_sem, e])); exact hk
theorem Bn_mu (h1 : -9223372036854775808 ≤ x * y) (h2 : x * y ≤ 9223372036854775807) (hk : K (.int .i64 (x * y)) w) : Bn P .mul t c (.int .i64 x) (.int .i64 y) w K := by
  obtain ⟨z, hz⟩ : ∃ z, z = x * y := ⟨_, rfl⟩
  rw [← hz] at h1 h2 hk
  ((try simp -dsimp [go_sem, ← hz]); repeat (simp -dsimp (disch := omega) only [w64, wu64, dlt_t, dlt_f, dle_t, dle_f, deq_t, deq_f, beq_t, beq_f, bne_t, bne_f, nlt_t, nlt_f, nle_t, nle_f, neq_t, neq_f, nbeq_t, nbeq_f, nbne_t, nbne_f, it_t, it_f, dit_t, dit_f]; try simp -dsimp [go_sem, ← hz])); exact hk
theorem Ia_ld {v : Value} {xs : List Int} {i : Int} {j : Nat} (ht : P.underlying t = some (.slice u)) (hz : ∀ w, (sizeOf u).run P w = .ok 1 w) (ha : ∀ w, (isAgg u).run P w = .ok false w) (h : SlAt w v (xs.map fun z => Value.int .i64 z)) (hi : i = j) (hj : j < xs.length) (hk : K (.int .i64 xs[j]) w) :
    Ia P t v (.int .i64 i) w fun a w => Ld P u a w K := by
  subst hi
  rcases h with ⟨rfl, hx⟩ | ⟨b, o, cap, rfl, hcap, hcells⟩
  · have : xs = [] := by simpa using hx
    subst this; simp at hj
  · have hcell := hcells j (.int .i64 xs[j]) (by simp [hj])
    simp only [List.length_map] at hcap ⊢
    ((try simp -dsimp [go_sem, ht, hz, ha, hcell]); repeat (simp -dsimp (disch := omega) only [w64, wu64, dlt_t, dlt_f, dle_t, dle_f, deq_t, deq_f, beq_t, beq_f, bne_t, bne_f, nlt_t, nlt_f, nle_t, nle_f, neq_t, neq_f, nbeq_t, nbeq_f, nbne_t, nbne_f, it_t, it_f, dit_t, dit_f]; try simp -dsimp [go_sem, ht, hz, ha, hcell]))
    exact hk
end
end Go.Eng
