/-
  Contracts and plain lemmas. By an AI agent.
-/
import Derived.Test.YtnocjgmmglmfiaaGreatDoorLEtC
import Derived.Test.YtnocjgmmglmfiaaGreatDoorEsY
import Derived.Test.YtnocjgmmglmfiaaGreatDoorPlain
set_option linter.unusedSimpArgs false
set_option linter.unusedVariables false
set_option linter.unusedSectionVars false
namespace Go.Proofs.YtnocjgmmglmfiaaGreatDoor
open Go Go.Eng Go.Proofs Go.Num Go.RowKit
set_option maxRecDepth 100000
set_option linter.unusedVariables false
set_option linter.unusedSectionVars false
theorem dkept_snoc (e : K4) : ∀ (l : List K4) (d : Nat), dkept d (l ++ [e]) = dkept d l ++ if d / 4 ^ l.length % 4 < e.2 then [el4 e] else []
  | [], d => by
    show (if d % 4 < e.2 then el4 e :: dkept (d / 4) [] else dkept (d / 4) []) = _
    simp [dkept]
  | x :: l, d => by
    have ih := dkept_snoc e l (d / 4)
    have e1 : d / 4 / 4 ^ l.length = d / 4 ^ (x :: l).length := by
      rw [List.length_cons, Nat.pow_succ, Nat.mul_comm, ← Nat.div_div_eq_div_mul]
    rw [e1] at ih
    show (if d % 4 < x.2 then el4 x :: dkept (d / 4) (l ++ [e]) else dkept (d / 4) (l ++ [e])) = (if d % 4 < x.2 then el4 x :: dkept (d / 4) l else dkept (d / 4) l) ++ _
    rw [ih]
    split <;> rfl
theorem dkept_mem : ∀ (l : List K4) (d : Nat), ∀ e ∈ dkept d l, ∃ k ∈ l, e = el4 k
  | [], d, e, h => by simp [dkept] at h
  | x :: l, d, e, h => by
    unfold dkept at h
    split at h
    · rcases List.mem_cons.1 h with rfl | h
      · exact ⟨x, by simp, rfl⟩
      · obtain ⟨k, h1, h2⟩ := dkept_mem l (d / 4) e h
        exact ⟨k, by simp [h1], h2⟩
    · obtain ⟨k, h1, h2⟩ := dkept_mem l (d / 4) e h
      exact ⟨k, by simp [h1], h2⟩
theorem dkept_len : ∀ (l : List K4) (d : Nat), (dkept d l).length ≤ l.length
  | [], d => by simp [dkept]
  | x :: l, d => by
    have := dkept_len l (d / 4)
    unfold dkept
    split
    · simp only [List.length_cons]; omega
    · simp only [List.length_cons]; omega
abbrev I2 := Int × Int
abbrev kT (a : I2) : List Value := [.int .i64 a.1, .int .i64 a.2]
def I2ok (l : List I2) : Prop := ∀ a ∈ l, I64 a.1 ∧ I64 a.2
def k4E (a : I2) : K4 := (qI (pickZ a.1 21 - 5), (1 + pickZ a.2 4).toNat)
abbrev fKX (e : K4) : List Value := fX (el4 e)
abbrev fKP (e : K4) : List Value := fP (el4 e)
abbrev fKK (e : K4) : List Value := [.int .i64 (e.2 : Int)]
theorem k4_bd (a : I2) : 1 ≤ (k4E a).2 ∧ (k4E a).2 ≤ 4 := by
  have h2 := pickZ_bd (c := a.2) (n := 4) (by decide)
  unfold k4E; simp only; omega
theorem el4_eq (a : I2) : el4 (k4E a) = (qI (pickZ a.1 21 - 5), ((1 + pickZ a.2 4 : Int) : Rat) / ((4 : Int) : Rat)) := by
  have h2 := pickZ_bd (c := a.2) (n := 4) (by decide)
  unfold el4 k4E
  have e : (((1 + pickZ a.2 4).toNat : Nat) : Rat) = ((1 + pickZ a.2 4 : Int) : Rat) := by
    rw [← Rat.intCast_natCast, Int.toNat_of_nonneg (by omega)]
  simp only [e]; rfl
theorem k4_ME (a : I2) : ME (el4 (k4E a)) := by
  have h1 := pickZ_bd (c := a.1) (n := 21) (by decide)
  have h2 := pickZ_bd (c := a.2) (n := 4) (by decide)
  have := ME.of (a := pickZ a.1 21 - 5) (b := 1) (c := 1 + pickZ a.2 4) (d := 4) (by omega) (by decide) (by omega) (by decide)
  rw [q_div1] at this
  rw [el4_eq]; exact this
theorem dvd12 {d : Int} (h0 : 1 ≤ d) (h1 : d ≤ 4) : d.natAbs ∣ 12 := by
  have : ∀ n : Nat, n < 5 → 0 < n → n ∣ 12 := by decide +kernel
  exact this _ (by omega) (by omega)
theorem k4_tE (a : I2) : DR 12 64 (tE (el4 (k4E a))) := by
  have h1 := pickZ_bd (c := a.1) (n := 21) (by decide)
  have h2 := pickZ_bd (c := a.2) (n := 4) (by decide)
  rw [el4_eq]
  have hc0 : (0 : Rat) < ((1 + pickZ a.2 4 : Int) : Rat) := by exact_mod_cast (show 0 < 1 + pickZ a.2 4 by omega)
  have e : tE (qI (pickZ a.1 21 - 5), ((1 + pickZ a.2 4 : Int) : Rat) / ((4 : Int) : Rat)) = ((4 * (pickZ a.1 21 - 5) : Int) : Rat) / ((1 + pickZ a.2 4 : Int) : Rat) := by
    unfold tE
    rw [Rat.intCast_mul]
    have e4 : ((4 : Int) : Rat) = 4 := rfl
    rw [e4]
    show ((pickZ a.1 21 - 5 : Int) : Rat) / _ = _
    grind
  rw [e]
  exact .of (by omega) (dvd12 (by omega) (by omega)) (by decide) (by omega)
def isK (m : List K4) : Prop := ∀ e ∈ m, ∃ a, e = k4E a
section
variable {m : List K4} (hm : isK m)
include hm
theorem isK.bd : ∀ e ∈ m, 1 ≤ e.2 ∧ e.2 ≤ 4 := fun e he => by
  obtain ⟨a, rfl⟩ := hm e he
  exact k4_bd a
theorem isK.mes : MEs (m.map el4) := fun e he => by
  obtain ⟨k, hk, rfl⟩ := List.mem_map.1 he
  obtain ⟨a, rfl⟩ := hm k hk
  exact k4_ME a
theorem isK.dmes (d : Nat) : MEs (dkept d m) := fun e he => by
  obtain ⟨k, hk, rfl⟩ := dkept_mem m d e he
  obtain ⟨a, rfl⟩ := hm k hk
  exact k4_ME a
theorem isK.pos : Pos (m.map el4) := fun e he => (hm.mes e he).ne
theorem isK.T (hl : m.length ≤ 4) (d : Nat) : DR 12 256 (sumR tE (dkept d m)) := by
  have h1 := DR.sumR (D := 12) (M := 64) (f := tE) (l := dkept d m) (by decide) fun e he => by
    obtain ⟨k, hk, rfl⟩ := dkept_mem m d e he
    obtain ⟨a, rfl⟩ := hm k hk
    exact k4_tE a
  have h2 := dkept_len m d
  exact h1.mono (by decide) (by decide) (Nat.dvd_refl _) (by omega)
theorem isK.total : sumN (4 ^ m.length) (fun d => sumR tE (dkept d m)) = ((4 ^ m.length : Nat) : Rat) * sumR tX (m.map el4) := by
  have h := cnt_mean (l := m) (sumR tE) hm.bd
  rw [mean_est hm.pos] at h
  exact h
theorem isK.squares : sumN (4 ^ m.length) (fun d => sumR tE (dkept d m) * sumR tE (dkept d m)) = ((4 ^ m.length : Nat) : Rat) * (sumR tV (m.map el4) + sumR tX (m.map el4) * sumR tX (m.map el4)) := by
  have h := cnt_mean (l := m) (fun y => sumR tE y * sumR tE y) hm.bd
  have h2 := mean_sq hm.pos 0
  have e : (fun y : List El => (sumR tE y - 0) * (sumR tE y - 0)) = fun y => sumR tE y * sumR tE y := funext fun y => by grind
  rw [e] at h2
  rw [h2] at h
  rw [show sumN (4 ^ m.length) (fun d => sumR tE (dkept d m) * sumR tE (dkept d m)) = cnt m (fun y => sumR tE y * sumR tE y) from rfl, h]
  grind
end
theorem kmap_snoc {l : List I2} {j : Nat} {a : I2} (h : l[j]? = some a) : (l.take (j + 1)).map k4E = (l.take j).map k4E ++ [k4E a] := by
  rw [take_snoc h, List.map_append]; rfl
theorem isK_map (l : List I2) : isK (l.map k4E) := fun e he => by
  obtain ⟨a, _, rfl⟩ := List.mem_map.1 he
  exact ⟨a, rfl⟩
theorem pow4_le {j : Nat} (h : j ≤ 4) : 4 ^ j ≤ 256 := by
  have : ∀ j, j < 5 → 4 ^ j ≤ 256 := by decide
  exact this j (by omega)
noncomputable def dT (m : List K4) (d : Nat) : Rat := sumR tE (dkept d m)
noncomputable def dQ (m : List K4) (d : Nat) : Rat := dT m d * dT m d
section
variable {m : List K4} (hm : isK m) (hl : m.length ≤ 4)
include hm hl
theorem isK.sT (d : Nat) : Sml (dT m d) := Sml.of (hm.T hl d) (by decide) (by decide +kernel) (by decide +kernel)
theorem isK.q (d : Nat) : DR 144 65536 (dQ m d) := (hm.T hl d).mul (hm.T hl d) (by decide) (by decide)
theorem isK.sQ (d : Nat) : Sml (dQ m d) := Sml.of (hm.q hl d) (by decide) (by decide +kernel) (by decide +kernel)
theorem isK.sNT {d : Nat} (h : d ≤ 256) : Sml (sumN d (dT m)) :=
  Sml.of (DR.sumN (D := 12) (M := 256) (by decide) fun k _ => hm.T hl k) (by decide) (by decide +kernel) (Nat.lt_of_le_of_lt (Nat.mul_le_mul_right _ (by omega : d * 256 ≤ 65536)) (by decide +kernel))
theorem isK.sNQ {d : Nat} (h : d ≤ 256) : Sml (sumN d (dQ m)) :=
  Sml.of (DR.sumN (D := 144) (M := 65536) (by decide) fun k _ => hm.q hl k) (by decide) (by decide +kernel) (Nat.lt_of_le_of_lt (Nat.mul_le_mul_right _ (by omega : d * 65536 ≤ 16777216)) (by decide +kernel))
theorem isK.dX : DR 360 1800 (sumR tX (m.map el4)) := (DR.sumR (D := 360) (M := 450) (f := tX) (l := m.map el4) (by decide) fun e he => (hm.mes e he).x).mono (by decide) (by decide) (Nat.dvd_refl _) (by rw [List.length_map]; omega)
theorem isK.sX : Sml (sumR tX (m.map el4)) := Sml.of (hm.dX hl) (by decide) (by decide +kernel) (by decide +kernel)
theorem isK.sXX : Sml (sumR tX (m.map el4) * sumR tX (m.map el4)) := Sml.of ((hm.dX hl).mul (hm.dX hl) (by decide) (by decide)) (by decide) (by decide +kernel) (by decide +kernel)
theorem isK.sVX : Sml (sumR tV (m.map el4) + sumR tX (m.map el4) * sumR tX (m.map el4)) := by
  have h1 := (DR.sumR (D := 6979834681700738457600000) (M := 8100000) (f := tV) (l := m.map el4) (by decide) fun e he => (hm.mes e he).tV).mono (E := 6979834681700738457600000) (N := 32400000) (by decide) (by decide) (Nat.dvd_refl _) (by rw [List.length_map]; omega)
  have h2 := ((hm.dX hl).mul (hm.dX hl) (by decide) (by decide)).mono (E := 6979834681700738457600000) (N := 3240000) (by decide) (by decide) (by decide +kernel) (by decide)
  exact Sml.of (h1.add h2 (by decide)) (by decide) (by decide +kernel) (by decide +kernel)
theorem isK.sV : Sml (sumR tV (m.map el4)) := by
  have h1 := (DR.sumR (D := 6979834681700738457600000) (M := 8100000) (f := tV) (l := m.map el4) (by decide) fun e he => (hm.mes e he).tV).mono (E := 6979834681700738457600000) (N := 32400000) (by decide) (by decide) (Nat.dvd_refl _) (by rw [List.length_map]; omega)
  exact Sml.of h1 (by decide) (by decide +kernel) (by decide +kernel)
end
theorem sml_nat {Q : Nat} (h : Q ≤ 256) : Sml (((Q : Int) : Rat)) := by
  have : DR 1 256 ((Q : Int) : Rat) := ⟨Q, by show _ = ((Q : Int) : Rat) / ((1 : Int) : Rat); grind, by omega⟩
  exact Sml.of this (by decide) (by decide +kernel) (by decide +kernel)
theorem kx_map (m : List K4) : m.flatMap fKX = (m.map el4).flatMap fX := by rw [List.flatMap_map]
theorem kp_map (m : List K4) : m.flatMap fKP = (m.map el4).flatMap fP := by rw [List.flatMap_map]
set_option maxHeartbeats 8000000 in
theorem law_Counted {w0 : World} {v : Value} {l : List I2} (he : En w0) (hv : SlC w0 2 v l.length (l.flatMap kT)) (hok : I2ok l) (hl : l.length ≤ 9223372036854775807) :
    Calls Tryz.prog 6 #[v] w0 (Ret fun r w' => Ext w0 w' ∧ r = .bool true) := by
  have cc1 := fun {W : World} (x : Ext w0 W) => c_sane (he.ext x)
  apply e_law16_EstimateCounted
  unfold s_law16_EstimateCounted
  have h := Hp.init [] w0
  refine cl1 h n_law16_sane (cc1 h.ext) fun w h => ?_
  refine Un_T ?_
  refine If_F ?_
  have h := ((h.nil tR 2).nil tR 2).nil 3 1
  refine Lp4.mk (fun x p k i W => ∃ j : Nat, j ≤ l.length ∧ j ≤ 4 ∧ i = .int .i64 j ∧ Hp [] w0 W [ro 3 1 k j (((l.take j).map k4E).flatMap fKK), ro tR 2 p j (((l.take j).map k4E).flatMap fKP), ro tR 2 x j (((l.take j).map k4E).flatMap fKX)])
    (fun _ _ _ i _ => match i with | .int _ i' => l.length - i'.toNat | _ => 0) ⟨0, by omega, by omega, rfl, h⟩ ?_
  clear h
  rintro x p k _ W ⟨j, hj, hj4, rfl, h⟩
  by_cases hjl : j < l.length ∧ j < 4
  · have hj1 := hjl.1
    have hj2 := hjl.2
    refine Exists.elim (p := fun a => l[j]? = some a) ⟨_, List.getElem?_eq_getElem hj1⟩ fun a ha => ?_
    have sa : Seg (l.flatMap kT) (j * 2) (kT a) := flat_seg (f := kT) (fun _ => rfl) ha
    have oa := hok a (List.mem_of_getElem? ha)
    have o1 := oa.1
    have o2 := oa.2
    have b1 := pickZ_bd (c := a.1) (n := 21) (by decide)
    have b2 := pickZ_bd (c := a.2) (n := 4) (by decide)
    have cc2 := fun {W : World} (_ : Ext w0 W) => c_pickL (w := W) (c := a.1) (n := 21) o1 (by decide)
    have cc3 := fun {W : World} (_ : Ext w0 W) => c_pickL (w := W) (c := a.2) (n := 4) o2 (by decide)
    have cc4 := fun {W : World} (x : Ext w0 W) => c_of1 (w := W) (n := pickZ a.1 21 - 5) (he.hT.ext x) (by omega)
    have cc5 := fun {W : World} (x : Ext w0 W) => c_of (w := W) (n := 1 + pickZ a.2 4) (d := 4) (he.hT.ext x) (by omega) (by decide) (by decide)
    have e1 : fKX (k4E a) = fX (qI (pickZ a.1 21 - 5), ((1 + pickZ a.2 4 : Int) : Rat) / ((4 : Int) : Rat)) := by show fX (el4 (k4E a)) = _; rw [el4_eq]
    have e2 : fKP (k4E a) = fP (qI (pickZ a.1 21 - 5), ((1 + pickZ a.2 4 : Int) : Rat) / ((4 : Int) : Rat)) := by show fP (el4 (k4E a)) = _; rw [el4_eq]
    have e3 : fKK (k4E a) = [.int .i64 (1 + pickZ a.2 4)] := by show [Value.int .i64 (((1 + pickZ a.2 4).toNat : Nat) : Int)] = _; rw [Int.toNat_of_nonneg (by omega)]
    have hsn := kmap_snoc ha
    refine leS (hv.hp h) ?_
    refine Bn_ltT (by omega) ?_
    iterate 2 refine Gd_T ?_
    refine Bn_ltT (by omega) ?_
    refine Pick_T ?_
    refine If_T ?_
    refine iaH h (by assumption) (by omega) fun zb zo zk zv zc => ?_
    refine iaZ (by decide) (by decide) ?_
    refine lh1 h (by assumption) (by assumption) (by rfl) ?_
    refine cl1 h n_law16_pick (cc3 h.ext) fun w h => ?_
    refine Bn_ad (by omega) (by omega) ?_
    refine iaH h (by assumption) (by omega) fun zb zo zk zv zc => ?_
    refine iaZ (by decide) (by decide) ?_
    refine lh1 h (by assumption) (by assumption) (by rfl) ?_
    refine cl1 h n_law16_pick (cc2 h.ext) fun w h => ?_
    refine Bn_su (by omega) (by omega) ?_
    refine cl1 h n_law16_of (cc4 h.ext) fun w h => ?_
    refine bs1A h (by rfl) (by decide) (by rfl) (by decide) fun v1 w h => ?_
    refine apR (by rfl) (by decide) h 3 rfl (h.sl (i := 0) rfl) (by first | rfl | assumption) (by omega) fun v2 w h => ?_
    refine cl1 h n_law16_of (cc5 h.ext) fun w h => ?_
    refine bs1A h (by rfl) (by decide) (by rfl) (by decide) fun v3 w h => ?_
    refine apR (by rfl) (by decide) h 3 rfl (h.sl (i := 0) rfl) (by first | rfl | assumption) (by omega) fun v4 w h => ?_
    refine bs1A h (by rfl) (by decide) (by rfl) (by decide) fun v5 w h => ?_
    refine apR (by rfl) (by decide) h 3 rfl (h.sl (i := 0) rfl) (by first | rfl | assumption) (by omega) fun v6 w h => ?_
    refine Bn_ad (by omega) (by omega) ?_
    dsimp only [List.set] at h
    refine ⟨⟨j + 1, by omega, by omega, rfl, ?_⟩, by show l.length - ((j : Int) + 1).toNat < l.length - (j : Int).toNat; omega⟩
    rw [hsn, List.flatMap_append, List.flatMap_append, List.flatMap_append]
    simp only [List.flatMap_cons, List.flatMap_nil, List.append_nil]
    rw [e1, e2, e3]
    exact h.pick [3, 4, 5] (by decide) rfl
  refine Exists.elim (p := fun m => m = (l.take 4).map k4E) ⟨_, rfl⟩ fun m hm => ?_
  have hml : m.length = j := by rw [hm, List.length_map, List.length_take]; omega
  have hmj : (l.take j).map k4E = m := by
    rw [hm]
    by_cases hc : j < l.length
    · rw [show j = 4 by omega]
    · rw [List.take_of_length_le (by omega), List.take_of_length_le (by omega)]
  rw [hmj, ← hml] at h
  have hK : isK m := hm ▸ isK_map _
  have hml4 : m.length ≤ 4 := by omega
  have hmj' : ¬ ((j : Int) < (l.length : Int) ∧ (j : Int) < 4) := by omega
  refine leS (hv.hp h) ?_
  refine Lt2F hmj' ?_
  refine If_F ?_
  refine Lp2.mk (fun d i W => ∃ q Q : Nat, q ≤ m.length ∧ Q = 4 ^ q ∧ d = .int .i64 (Q : Int) ∧ i = .int .i64 q ∧ Hp [] w0 W [ro 3 1 k m.length (m.flatMap fKK), ro tR 2 p m.length (m.flatMap fKP), ro tR 2 x m.length (m.flatMap fKX)])
    (fun _ i _ => match i with | .int _ i' => m.length - i'.toNat | _ => 0) ⟨0, 1, by omega, rfl, rfl, rfl, h⟩ ?_
  clear h
  rintro _ _ W ⟨q, Q, hq, hQ, rfl, rfl, h⟩
  have hp4 : Q ≤ 256 := hQ ▸ pow4_le (j := q) (by omega)
  by_cases hqm : q < m.length
  · refine leS (h.sl (i := 2) rfl) ?_
    refine Bn_ltT (by omega) ?_
    refine If_T ?_
    refine Bn_mu (by omega) (by omega) ?_
    refine Bn_ad (by omega) (by omega) ?_
    exact ⟨⟨q + 1, Q * 4, by omega, by rw [hQ, Nat.pow_succ], by rw [Int.natCast_mul]; rfl, rfl, h⟩, by show m.length - ((q : Int) + 1).toNat < m.length - (q : Int).toNat; omega⟩
  have hqm' : q = m.length := by omega
  rw [hqm'] at hQ
  have hQ0 : (((Q : Int)) : Rat) ≠ 0 := by
    have : 0 < Q := hQ ▸ Nat.pow_pos (by decide)
    exact_mod_cast (show (Q : Int) ≠ 0 by omega)
  have hX : sumN Q (dT m) / (((Q : Int)) : Rat) = sumR tX (m.map el4) := by
    have h1 := hK.total
    rw [← hQ] at h1
    have h2 : sumN Q (dT m) = ((Q : Nat) : Rat) * sumR tX (m.map el4) := h1
    rw [h2, Rat.intCast_natCast]
    rw [Rat.intCast_natCast] at hQ0
    grind
  have hV : sumN Q (dQ m) / (((Q : Int)) : Rat) = sumR tV (m.map el4) + sumR tX (m.map el4) * sumR tX (m.map el4) := by
    have h1 := hK.squares
    rw [← hQ] at h1
    have h2 : sumN Q (dQ m) = ((Q : Nat) : Rat) * (sumR tV (m.map el4) + sumR tX (m.map el4) * sumR tX (m.map el4)) := h1
    rw [h2, Rat.intCast_natCast]
    rw [Rat.intCast_natCast] at hQ0
    grind
  have hVX : sumR tV (m.map el4) + sumR tX (m.map el4) * sumR tX (m.map el4) - sumR tX (m.map el4) * sumR tX (m.map el4) = sumR tV (m.map el4) := by grind
  have cc2 := fun {W : World} (x : Ext w0 W) => c_of1 (w := W) (n := 0) (he.hT.ext x) (by decide)
  have cc3 := fun {W : World} (x : Ext w0 W) => c_of1 (w := W) (n := (Q : Int)) (he.hT.ext x) (by omega)
  have cc4 : ∀ {W : World}, Ext w0 W → Calls Tryz.prog 26 #[ov (some (sumN Q (dT m))), ov (some (((Q : Int)) : Rat))] W (Ret fun r w' => Ext W w' ∧ r = .tuple #[ov (some (sumR tX (m.map el4))), .int .i64 0]) := fun {W} x => by
    have := o_div (w := W) (o := some (sumN Q (dT m))) (p := some (((Q : Int)) : Rat)) (.some (hK.sNT hml4 hp4).rb) (.some (sml_nat hp4).rb) (he.hT.ext x)
    rw [odiv_ok (hK.sNT hml4 hp4) (sml_nat hp4) hQ0, hX] at this
    exact this
  have cc5 : ∀ {W : World}, Ext w0 W → Calls Tryz.prog 26 #[ov (some (sumN Q (dQ m))), ov (some (((Q : Int)) : Rat))] W (Ret fun r w' => Ext W w' ∧ r = .tuple #[ov (some (sumR tV (m.map el4) + sumR tX (m.map el4) * sumR tX (m.map el4))), .int .i64 0]) := fun {W} x => by
    have := o_div (w := W) (o := some (sumN Q (dQ m))) (p := some (((Q : Int)) : Rat)) (.some (hK.sNQ hml4 hp4).rb) (.some (sml_nat hp4).rb) (he.hT.ext x)
    rw [odiv_ok (hK.sNQ hml4 hp4) (sml_nat hp4) hQ0, hV] at this
    exact this
  have cc6 : ∀ {W : World}, Ext w0 W → Calls Tryz.prog 24 #[ov (some (sumR tX (m.map el4))), ov (some (sumR tX (m.map el4)))] W (Ret fun r w' => Ext W w' ∧ r = .tuple #[ov (some (sumR tX (m.map el4) * sumR tX (m.map el4))), .int .i64 0]) := fun {W} x => by
    have := o_mul (w := W) (o := some (sumR tX (m.map el4))) (p := some (sumR tX (m.map el4))) (.some (hK.sX hml4).rb) (.some (hK.sX hml4).rb) (he.hT.ext x)
    rw [omul_ok (hK.sX hml4) (hK.sX hml4)] at this
    exact this
  have cc7 : ∀ {W : World}, Ext w0 W → Calls Tryz.prog 27 #[ov (some (sumR tV (m.map el4) + sumR tX (m.map el4) * sumR tX (m.map el4))), ov (some (sumR tX (m.map el4) * sumR tX (m.map el4)))] W (Ret fun r w' => Ext W w' ∧ r = .tuple #[ov (some (sumR tV (m.map el4))), .int .i64 0]) := fun {W} x => by
    have := o_sub (w := W) (o := some (sumR tV (m.map el4) + sumR tX (m.map el4) * sumR tX (m.map el4))) (p := some (sumR tX (m.map el4) * sumR tX (m.map el4))) (.some (hK.sVX hml4).rb) (.some (hK.sXX hml4).rb) (he.hT.ext x)
    rw [osub_ok (hK.sVX hml4) (hK.sXX hml4), hVX] at this
    exact this
  have cc8 : ∀ {W : World}, Ext w0 W → ∀ {v : Value}, SlC W 2 v m.length (m.flatMap fKX) → Calls Tryz.prog 20 #[v] W (Ret fun r w' => Ext W w' ∧ r = .tuple #[ov (some (sumR tX (m.map el4))), .int .i64 0]) := fun {W} x {v} h1 => by
    rw [kx_map] at h1
    exact m_sum (he.ext x) (by rw [List.length_map]; exact h1) hK.mes (by rw [List.length_map]; omega) rfl
  have cc9 : ∀ {W : World}, Ext w0 W → ∀ {v v' : Value}, SlC W 2 v m.length (m.flatMap fKX) → SlC W 2 v' m.length (m.flatMap fKP) → Calls Tryz.prog 16 #[v, v'] W (Ret fun r w' => Ext W w' ∧ r = .tuple #[ov (some (sumR tV (m.map el4))), .int .i64 0]) := fun {W} x {v v'} h1 h2 => by
    rw [kx_map] at h1
    rw [kp_map] at h2
    exact m_Variance (he.ext x) (by rw [List.length_map]; exact h1) (by rw [List.length_map]; exact h2) hK.mes (by rw [List.length_map]; omega) rfl
  refine leS (h.sl (i := 2) rfl) ?_
  refine Bn_ltF (by omega) ?_
  refine If_F ?_
  refine cl1 h n_law16_of (cc2 h.ext) fun w h => ?_
  refine alS h fun g1 w h => ?_
  refine stA h 0 rfl rfl rfl rfl fun w h => ?_
  refine cl1 h n_law16_of (cc2 h.ext) fun w h => ?_
  refine alS h fun g2 w h => ?_
  refine stA h 0 rfl rfl rfl rfl fun w h => ?_
  dsimp only [List.set] at h
  refine Lp1.mk (fun i W => ∃ d : Nat, d ≤ Q ∧ i = .int .i64 d ∧ Hp [] w0 W [bx g2 tR (fO (some (sumN d (dQ m)))), bx g1 tR (fO (some (sumN d (dT m)))), ro 3 1 k m.length (m.flatMap fKK), ro tR 2 p m.length (m.flatMap fKP), ro tR 2 x m.length (m.flatMap fKX)])
    (fun i _ => match i with | .int _ i' => Q - i'.toNat | _ => 0) ⟨0, by omega, rfl, h⟩ ?_
  clear h
  rintro _ W ⟨d, hd, rfl, h⟩
  by_cases hdQ : d < Q
  · have cc10 : ∀ {W : World}, Ext w0 W → ∀ {v v' : Value}, SlC W 2 v (dkept d m).length ((dkept d m).flatMap fX) → SlC W 2 v' (dkept d m).length ((dkept d m).flatMap fP) → Calls Tryz.prog 14 #[v, v'] W (Ret fun r w' => Ext W w' ∧ r = .tuple #[ov (some (dT m d)), ov (some (sumR tD (dkept d m))), .int .i64 0]) := fun {W} x {v v'} h1 h2 => m_Total (he.ext x) h1 h2 (hK.dmes d) (by have := dkept_len m d; omega) rfl rfl
    have cc11 : ∀ {W : World}, Ext w0 W → Calls Tryz.prog 24 #[ov (some (dT m d)), ov (some (dT m d))] W (Ret fun r w' => Ext W w' ∧ r = .tuple #[ov (some (dQ m d)), .int .i64 0]) := fun {W} x => by
      have := o_mul (w := W) (o := some (dT m d)) (p := some (dT m d)) (.some (hK.sT hml4 d).rb) (.some (hK.sT hml4 d).rb) (he.hT.ext x)
      rw [omul_ok (hK.sT hml4 d) (hK.sT hml4 d)] at this
      exact this
    have cc12 : ∀ {W : World}, Ext w0 W → Calls Tryz.prog 25 #[ov (some (sumN d (dT m))), ov (some (dT m d))] W (Ret fun r w' => Ext W w' ∧ r = .tuple #[ov (some (sumN (d + 1) (dT m))), .int .i64 0]) := fun {W} x => by
      have := o_add (w := W) (o := some (sumN d (dT m))) (p := some (dT m d)) (.some (hK.sNT hml4 (by omega)).rb) (.some (hK.sT hml4 d).rb) (he.hT.ext x)
      rw [oadd_ok (hK.sNT hml4 (by omega)) (hK.sT hml4 d)] at this
      exact this
    have cc13 : ∀ {W : World}, Ext w0 W → Calls Tryz.prog 25 #[ov (some (sumN d (dQ m))), ov (some (dQ m d))] W (Ret fun r w' => Ext W w' ∧ r = .tuple #[ov (some (sumN (d + 1) (dQ m))), .int .i64 0]) := fun {W} x => by
      have := o_add (w := W) (o := some (sumN d (dQ m))) (p := some (dQ m d)) (.some (hK.sNQ hml4 (by omega)).rb) (.some (hK.sQ hml4 d).rb) (he.hT.ext x)
      rw [oadd_ok (hK.sNQ hml4 (by omega)) (hK.sQ hml4 d)] at this
      exact this
    refine Bn_ltT (by omega) ?_
    refine If_T ?_
    have h := (h.nil tR 2).nil tR 2
    refine Lp4.mk (fun y z r i W => ∃ n R : Nat, n ≤ m.length ∧ R = d / 4 ^ n ∧ R ≤ 256 ∧ r = .int .i64 (R : Int) ∧ i = .int .i64 n ∧ Hp [] w0 W [ro tR 2 z (dkept d (m.take n)).length ((dkept d (m.take n)).flatMap fP), ro tR 2 y (dkept d (m.take n)).length ((dkept d (m.take n)).flatMap fX), bx g2 tR (fO (some (sumN d (dQ m)))), bx g1 tR (fO (some (sumN d (dT m)))), ro 3 1 k m.length (m.flatMap fKK), ro tR 2 p m.length (m.flatMap fKP), ro tR 2 x m.length (m.flatMap fKX)])
      (fun _ _ _ i _ => match i with | .int _ i' => m.length - i'.toNat | _ => 0) ⟨0, d, by omega, by rw [Nat.pow_zero, Nat.div_one], by omega, rfl, rfl, h⟩ ?_
    clear h
    rintro y z _ _ W ⟨n, R, hn, hR, hRb, rfl, rfl, h⟩
    by_cases hnm : n < m.length
    · refine Exists.elim (p := fun e => m[n]? = some e) ⟨_, List.getElem?_eq_getElem hnm⟩ fun e hne => ?_
      have sk : Seg (m.flatMap fKK) (n * 1) (fKK e) := flat_seg (f := fKK) (fun _ => rfl) hne
      have sx : Seg (m.flatMap fKX) (n * 2) (fX (el4 e)) := flat_seg (f := fKX) (fun _ => rfl) hne
      have sp : Seg (m.flatMap fKP) (n * 2) (fP (el4 e)) := flat_seg (f := fKP) (fun _ => rfl) hne
      have hb := hK.bd e (List.mem_of_getElem? hne)
      have hR' : R / 4 = d / 4 ^ (n + 1) := by rw [hR, Nat.pow_succ, Nat.div_div_eq_div_mul]
      have hdk := dkept_snoc e (m.take n) d
      rw [take_len hn, ← hR, ← take_snoc hne] at hdk
      have hkl := dkept_len (m.take n) d
      have hkl2 : (m.take n).length ≤ 4 := by rw [take_len hn]; omega
      by_cases hc : R % 4 < e.2
      · rw [if_pos hc] at hdk
        refine leS (h.sl (i := 6) rfl) ?_
        refine Bn_ltT (by omega) ?_
        refine If_T ?_
        refine Bn_rm (by omega) (by omega) ?_
        refine iaR h 4 rfl (by omega) fun zg zk zv => ?_
        refine lr0 h 4 rfl (by assumption) (by assumption) (by rfl) ?_
        refine Bn_ltT (by omega) ?_
        refine If_T ?_
        refine iaR h 6 rfl (by omega) fun zg zk zv => ?_
        refine lrA h 6 rfl (by assumption) (by assumption) (by rfl) ?_
        refine bs1A h (by rfl) (by decide) (by rfl) (by decide) fun v1 w h => ?_
        refine apR (by rfl) (by decide) h 2 rfl (h.sl (i := 0) rfl) (by first | rfl | assumption) (by omega) fun v2 w h => ?_
        refine iaR h 6 rfl (by omega) fun zg zk zv => ?_
        refine lrA h 6 rfl (by assumption) (by assumption) (by rfl) ?_
        refine bs1A h (by rfl) (by decide) (by rfl) (by decide) fun v3 w h => ?_
        refine apR (by rfl) (by decide) h 2 rfl (h.sl (i := 0) rfl) (by first | rfl | assumption) (by omega) fun v4 w h => ?_
        refine Bn_qu (by omega) (by omega) (by omega) ?_
        refine Bn_ad (by omega) (by omega) ?_
        dsimp only [List.set] at h
        refine ⟨⟨n + 1, R / 4, by omega, hR', by omega, by rw [Int.natCast_ediv]; rfl, rfl, ?_⟩, by show m.length - ((n : Int) + 1).toNat < m.length - (n : Int).toNat; omega⟩
        rw [hdk, List.flatMap_append, List.flatMap_append, List.length_append]
        exact h.pick [2, 3, 4, 5, 6, 7, 8] (by decide) rfl
      · rw [if_neg hc, List.append_nil] at hdk
        refine leS (h.sl (i := 6) rfl) ?_
        refine Bn_ltT (by omega) ?_
        refine If_T ?_
        refine Bn_rm (by omega) (by omega) ?_
        refine iaR h 4 rfl (by omega) fun zg zk zv => ?_
        refine lr0 h 4 rfl (by assumption) (by assumption) (by rfl) ?_
        refine Bn_ltF (by omega) ?_
        refine If_F ?_
        refine Bn_qu (by omega) (by omega) (by omega) ?_
        refine Bn_ad (by omega) (by omega) ?_
        refine ⟨⟨n + 1, R / 4, by omega, hR', by omega, by rw [Int.natCast_ediv]; rfl, rfl, ?_⟩, by show m.length - ((n : Int) + 1).toNat < m.length - (n : Int).toNat; omega⟩
        rw [hdk]
        exact h
    have hnm' : n = m.length := by omega
    subst hnm'
    rw [List.take_length] at h
    refine leS (h.sl (i := 6) rfl) ?_
    refine Bn_ltF (by omega) ?_
    refine If_F ?_
    refine cl1 h n_estimate_Total (cc10 h.ext (by first | exact (h.sl (i := 1) rfl) | assumption) (by first | exact (h.sl (i := 0) rfl) | assumption)) fun w h => ?_
    refine Ex3 ?_
    refine alS h fun g3 w h => ?_
    refine alS h fun g4 w h => ?_
    refine stA h 1 rfl rfl rfl rfl fun w h => ?_
    refine stA h 0 rfl rfl rfl rfl fun w h => ?_
    iterate 2 refine ldA h 1 rfl rfl ?_
    refine cl1 h n_rational_Mul (cc11 h.ext) fun w h => ?_
    refine Ex2 ?_
    refine alS h fun g5 w h => ?_
    refine stA h 0 rfl rfl rfl rfl fun w h => ?_
    refine ldA h 6 rfl rfl ?_
    refine ldA h 2 rfl rfl ?_
    refine cl1 h n_rational_Add (cc12 h.ext) fun w h => ?_
    refine Ex2 ?_
    refine alS h fun g6 w h => ?_
    refine stA h 0 rfl rfl rfl rfl fun w h => ?_
    refine ldA h 6 rfl rfl ?_
    refine ldA h 1 rfl rfl ?_
    refine cl1 h n_rational_Add (cc13 h.ext) fun w h => ?_
    refine Ex2 ?_
    refine alS h fun g7 w h => ?_
    refine stA h 0 rfl rfl rfl rfl fun w h => ?_
    refine Bn_neF (by omega) ?_
    iterate 2 refine Gd_F ?_
    refine Bn_neF (by omega) ?_
    refine Pick_F ?_
    iterate 2 refine Gd_F ?_
    refine Bn_neF (by omega) ?_
    refine Pick_F ?_
    iterate 2 refine Gd_F ?_
    refine Bn_neF (by omega) ?_
    refine Pick_F ?_
    refine If_F ?_
    refine ldA h 1 rfl rfl ?_
    refine stA h 8 rfl rfl rfl rfl fun w h => ?_
    refine ldA h 0 rfl rfl ?_
    refine stA h 7 rfl rfl rfl rfl fun w h => ?_
    refine Bn_ad (by omega) (by omega) ?_
    dsimp only [List.set] at h
    exact ⟨⟨d + 1, by omega, rfl, h.pick [7, 8, 9, 10, 11] (by decide) rfl⟩, by show Q - ((d : Int) + 1).toNat < Q - (d : Int).toNat; omega⟩
  have hdQ' : d = Q := by omega
  subst hdQ'
  refine Bn_ltF (by omega) ?_
  refine If_F ?_
  refine Jn2.lfb tR (fO (some (sumR tX (m.map el4)))) (.int .i64 0) h (fun K lf1 => ?_) (fun ga w h => ?_)
  · replace h := h.dr
    refine dlA h 1 rfl rfl ?_
    refine ⟨?_, ?_⟩
    refine cl1 h n_law16_of (cc3 h.ext) fun w h => ?_
    refine klA h 1 rfl rfl ?_
    refine ⟨?_, ?_⟩
    refine cl1 h n_rational_Div (cc4 h.ext) fun w h => ?_
    refine ExP2 ?_
    refine alS h fun g3 w h => ?_
    refine klA h 2 rfl rfl ?_
    refine stA h 0 rfl rfl rfl rfl fun w h => ?_
    exact lf1 _ _ h
    refine alS h fun g3 w h => ?_
    refine klA h 2 rfl rfl ?_
    refine cl1 h n_rational_Div (cc4 h.ext) fun w h => ?_
    refine ExP2 ?_
    refine stA h 0 rfl rfl rfl rfl fun w h => ?_
    exact lf1 _ _ h
    refine alS h fun g3 w h => ?_
    refine klA h 2 rfl rfl ?_
    refine cl1 h n_law16_of (cc3 h.ext) fun w h => ?_
    refine klA h 2 rfl rfl ?_
    refine cl1 h n_rational_Div (cc4 h.ext) fun w h => ?_
    refine ExP2 ?_
    refine stA h 0 rfl rfl rfl rfl fun w h => ?_
    exact lf1 _ _ h
  skip
  refine Jn2.lfb tR (fO (some (sumR tV (m.map el4) + sumR tX (m.map el4) * sumR tX (m.map el4)))) (.int .i64 0) h (fun K lf1 => ?_) (fun gb w h => ?_)
  · replace h := h.dr
    refine dlA h 1 rfl rfl ?_
    refine ⟨?_, ?_⟩
    refine cl1 h n_law16_of (cc3 h.ext) fun w h => ?_
    refine klA h 1 rfl rfl ?_
    refine ⟨?_, ?_⟩
    refine cl1 h n_rational_Div (cc5 h.ext) fun w h => ?_
    refine ExP2 ?_
    refine alS h fun g3 w h => ?_
    refine klA h 2 rfl rfl ?_
    refine stA h 0 rfl rfl rfl rfl fun w h => ?_
    exact lf1 _ _ h
    refine alS h fun g3 w h => ?_
    refine klA h 2 rfl rfl ?_
    refine cl1 h n_rational_Div (cc5 h.ext) fun w h => ?_
    refine ExP2 ?_
    refine stA h 0 rfl rfl rfl rfl fun w h => ?_
    exact lf1 _ _ h
    refine alS h fun g3 w h => ?_
    refine klA h 2 rfl rfl ?_
    refine cl1 h n_law16_of (cc3 h.ext) fun w h => ?_
    refine klA h 2 rfl rfl ?_
    refine cl1 h n_rational_Div (cc5 h.ext) fun w h => ?_
    refine ExP2 ?_
    refine stA h 0 rfl rfl rfl rfl fun w h => ?_
    exact lf1 _ _ h
  iterate 2 refine ldA h 1 rfl rfl ?_
  refine cl1 h n_rational_Mul (cc6 h.ext) fun w h => ?_
  refine Ex2 ?_
  refine alS h fun g3 w h => ?_
  refine stA h 0 rfl rfl rfl rfl fun w h => ?_
  refine ldA h 1 rfl rfl ?_
  refine ldA h 0 rfl rfl ?_
  refine cl1 h n_rational_Sub (cc7 h.ext) fun w h => ?_
  refine Ex2 ?_
  refine alS h fun g4 w h => ?_
  refine stA h 0 rfl rfl rfl rfl fun w h => ?_
  refine cl1 h n_law16_sum (cc8 h.ext (by first | exact (h.sl (i := 8) rfl) | assumption)) fun w h => ?_
  refine Ex2 ?_
  refine alS h fun g5 w h => ?_
  refine stA h 0 rfl rfl rfl rfl fun w h => ?_
  refine cl1 h n_estimate_Variance (cc9 h.ext (by first | exact (h.sl (i := 9) rfl) | assumption) (by first | exact (h.sl (i := 8) rfl) | assumption)) fun w h => ?_
  refine Ex2 ?_
  refine alS h fun g6 w h => ?_
  refine stA h 0 rfl rfl rfl rfl fun w h => ?_
  refine Bn_eqT (by omega) ?_
  iterate 2 refine Gd_T ?_
  refine Bn_eqT (by omega) ?_
  refine Pick_T ?_
  iterate 2 refine Gd_T ?_
  refine Bn_eqT (by omega) ?_
  refine Pick_T ?_
  iterate 2 refine Gd_T ?_
  refine Bn_eqT (by omega) ?_
  refine Pick_T ?_
  iterate 2 refine Gd_T ?_
  refine Bn_eqT (by omega) ?_
  refine Pick_T ?_
  iterate 2 refine Gd_T ?_
  refine Bn_eqT (by omega) ?_
  refine Pick_T ?_
  refine Gd_T ?_
  refine ldA h 5 rfl rfl ?_
  refine Gd_T ?_
  refine ldA h 1 rfl rfl ?_
  refine Gd_T ?_
  refine qEqS ?_
  refine Pick_T ?_
  refine Gd_T ?_
  refine ldA h 2 rfl rfl ?_
  refine Gd_T ?_
  refine ldA h 0 rfl rfl ?_
  refine Gd_T ?_
  refine qEqS ?_
  refine Pick_T ?_
  dsimp only [List.set] at h
  exact Ret.mk ⟨h.ext, rfl⟩
end Go.Proofs.YtnocjgmmglmfiaaGreatDoor
