/-
  Contracts and plain lemmas. By an AI agent.
-/
import Derived.Test.YtdbcpkihokagkaaGreatDoorUnR
import Derived.Test.YtdbcpkihokagkaaGreatDoorUnL
set_option linter.unusedSimpArgs false
set_option linter.unusedVariables false
set_option linter.unusedSectionVars false
namespace Go.Proofs.YtdbcpkihokagkaaGreatDoor
open Go Go.Eng Go.Proofs Go.Num Go.RowKit
set_option maxRecDepth 100000
def r4 (l : List UInt8) (t : RS) (x1 x2 x3 x4 : Int) (pos : Nat) : Option (QT × Nat) := some (⟨t, x1, x2, x3, x4⟩, pos)
def r3 (l : List UInt8) (t : RS) (x1 x2 x3 : Int) (pos : Nat) : Option (QT × Nat) := (decI (l.drop pos)).bind fun c => r4 l t x1 x2 x3 c.1 (pos + c.2)
def r2 (l : List UInt8) (t : RS) (x1 x2 : Int) (pos : Nat) : Option (QT × Nat) := (decI (l.drop pos)).bind fun c => r3 l t x1 x2 c.1 (pos + c.2)
def r1 (l : List UInt8) (t : RS) (x1 : Int) (pos : Nat) : Option (QT × Nat) := (decI (l.drop pos)).bind fun c => r2 l t x1 c.1 (pos + c.2)
def r0 (l : List UInt8) (t : RS) (pos : Nat) : Option (QT × Nat) := (decI (l.drop pos)).bind fun c => r1 l t c.1 (pos + c.2)
theorem rawQ_r (l : List UInt8) : rawQ l = (decS l).bind fun a => (decS (l.drop a.2)).bind fun b => r0 l (a.1, b.1) (a.2 + b.2) := rfl
abbrev dQV (p : Nat) : Option (QT × Nat) → Value
 | some (q, m) => .tuple #[vQ q, .int .i64 ((p + m : Nat) : Int), .int .i64 0]
 | none => .tuple #[vQ q0, .int .i64 0, .int .i64 50]
noncomputable def decV (s : List UInt8) (a : Int) : Value := if 0 ≤ a ∧ a ≤ s.length then dQV a.toNat (decQ (s.drop a.toNat)) else .tuple #[vQ q0, .int .i64 0, .int .i64 2]
theorem decI_in {l : List UInt8} {n : Int} {k : Nat} (h : decI l = some (n, k)) : k ≤ l.length := by
 obtain ⟨_, _, hm, r, hr⟩ := decI_get h
 rw [hr, List.length_append]; omega
theorem decS_in {l t : List UInt8} {k : Nat} (h : decS l = some (t, k)) : k ≤ l.length ∧ t.length ≤ 65536 := by
 obtain ⟨h1, hm, r, hr⟩ := decS_get h
 rw [hr, List.length_append]; exact ⟨by omega, h1⟩
theorem opt_ex {α β : Type} {o : Option (α × β)} (h : ¬ o = none) : ∃ a b, o = some (a, b) := by
 rcases o with _ | ⟨a, b⟩
 ·exact absurd rfl h
 ·exact ⟨a, b, rfl⟩
theorem decQ_n {l : List UInt8} (h : rawQ l = none) : decQ l = none := by unfold decQ; rw [h]; rfl
theorem decQ_f {l : List UInt8} {q : QT} {m : Nat} (h : rawQ l = some (q, m)) (hv : (valQ q).isSome = false) : decQ l = none := by
 unfold decQ; rw [h]; simp only [Option.bind_some]; rw [if_neg (by rw [hv]; decide)]
theorem decQ_y {l : List UInt8} {q : QT} {m : Nat} (h : rawQ l = some (q, m)) (hv : (valQ q).isSome = true) : decQ l = some (q, m) := by
 unfold decQ; rw [h]; simp only [Option.bind_some]; rw [if_pos hv]
section
variable {w0 : World} {s : List UInt8} (hs : s.length ≤ 1000000)
include hs
theorem c_uDecode {a : Int} (hT : Tab w0) : Calls Tryz.prog 33 #[str s, .int .i64 a] w0 (Ret fun r w' => Ext w0 w' ∧ r = decV s a) := by
 unfold decV
 by_cases ha : 0 ≤ a ∧ a ≤ s.length
 rotate_left
 ·rw [if_neg ha]
  by_cases ha0 : a < 0
  ·apply e_unit_Decode
   unfold s_unit_Decode
   have h := Hp.init [] w0
   refine alS h fun g1 w h => ?_
   refine Bn_ltT (by omega) (Gd_TF (Gd_TF (Gd_TF (Gd_TF (Pick_T (If_T (bdS PC.nil (by rfl) ?_)))))))
   refine stA h 0 rfl rfl rfl rfl fun w h => ?_
   refine rcA h 0 rfl rfl ?_
   dsimp only [List.set] at h
   exact Ret.mk ⟨h.ext, rfl⟩
  ·have ha1 : (s.length : Int) < a := by omega
   apply e_unit_Decode
   unfold s_unit_Decode
   have h := Hp.init [] w0
   refine alS h fun g1 w h => ?_
   refine Bn_ltF (by omega) (Gd_F (Gd_F (Gd_F (Bt_lenT ?_))))
   refine Gd_F (Bn_gtT (by omega) (Pick_F (If_T (bdS PC.nil (by rfl) ?_))))
   refine stA h 0 rfl rfl rfl rfl fun w h => ?_
   refine rcA h 0 rfl rfl ?_
   dsimp only [List.set] at h
   exact Ret.mk ⟨h.ext, rfl⟩
 rw [if_pos ha]
 obtain ⟨p, rfl⟩ : ∃ p : Nat, a = p := ⟨a.toNat, by omega⟩
 have hp : p ≤ s.length := by omega
 rw [Int.toNat_natCast]
 clear ha
 suffices main : ∀ (R : Ending → World → Prop), (∀ w, Hp [] w0 w [] → R (.returned (dQV p (decQ (s.drop p)))) w) → s_unit_Decode Tryz.prog (str s) (.int .i64 (p : Int)) w0 R from
  e_unit_Decode (main _ fun w h => Ret.mk ⟨h.ext, rfl⟩)
 intro R lf9
 have hraw := rawQ_r (s.drop p)
 have hlp : (s.drop p).length = s.length - p := List.length_drop
 have cc1 := fun {W : World} (_ : Ext w0 W) => c_wString (w0 := W) hs hp
 rcases h1 : decS (s.drop p) with _ | ⟨n, k1⟩
 ·rw [h1] at hraw cc1
  rw [decQ_n hraw] at lf9
  unfold s_unit_Decode
  have h := Hp.init [] w0
  refine alS h fun g1 w h => ?_
  refine Bn_ltF (by omega) (Gd_F (Gd_F (Gd_F (Bt_lenT ?_))))
  refine Gd_F (Bn_gtF (by omega) (Pick_F (If_F (cl1 h n_wire_String (cc1 h.ext) fun w h => ?_))))
  refine Ex3 (Bn_neT (by omega) (If_T (bdS PC.nil (by rfl) ?_)))
  refine stA h 0 rfl rfl rfl rfl fun w h => ?_
  refine rcA h 0 rfl rfl ?_
  exact lf9 _ (h.pick [] (by decide) rfl)
 rw [h1] at hraw cc1
 simp only [Option.bind_some] at hraw
 obtain ⟨in1, nl1⟩ := decS_in h1
 have hp1 : p + k1 ≤ s.length := by omega
 have cc2 := fun {W : World} (_ : Ext w0 W) => c_wString (w0 := W) hs hp1
 rw [List.drop_drop] at hraw
 have hl1 : (s.drop (p + k1)).length = s.length - (p + k1) := List.length_drop
 rcases h2 : decS (s.drop (p + k1)) with _ | ⟨d, k2⟩
 ·rw [h2] at hraw cc2
  rw [decQ_n hraw] at lf9
  unfold s_unit_Decode
  have h := Hp.init [] w0
  refine alS h fun g1 w h => ?_
  refine Bn_ltF (by omega) (Gd_F (Gd_F (Gd_F (Bt_lenT ?_))))
  refine Gd_F (Bn_gtF (by omega) (Pick_F (If_F (cl1 h n_wire_String (cc1 h.ext) fun w h => ?_))))
  refine Ex3 (Bn_neF (by omega) (If_F (cl1 h n_wire_String (cc2 h.ext) fun w h => ?_)))
  refine Ex3 (alS h fun g2 w h => ?_)
  refine Lp3.mkK (fun a e i W => i = .int .i64 0 ∧ e = .int .i64 10 ∧ Hp [] w0 W [bx g2 tA4 [.int .i64 0, .int .i64 0, .int .i64 0, .int .i64 0], bx g1 tQy (fQ q0)]) (fun _ _ _ _ => 0) ⟨rfl, rfl, h⟩ ?_
  clear h
  rintro _ _ _ W ⟨rfl, rfl, h⟩ K hK
  clear hK
  have cc5 := fun {W : World} (x : Ext w0 W) => c_unit (w := W) (u := (0, 0, 0, 0))
  refine Bn_ltT (by omega) (Gd_T (Gd_T (Bn_eqF (by omega) (Pick_T (If_F (bdS (PC.cons (by rfl) (PC.cons (by rfl) PC.nil)) (by rfl) ?_))))))
  refine ldA h 0 rfl rfl ?_
  refine cl1 h n_unit_unit (cc5 h.ext) fun w h => ?_
  refine bdS (PC.cons (by rfl) (PC.cons (by rfl) PC.nil)) (by rfl) ?_
  refine alS h fun g3 w h => ?_
  refine stA h 0 rfl rfl rfl rfl fun w h => ?_
  refine Bn_neT (by omega) (Gd_TF (Gd_TF (Gd_TF (Pick_T (If_T (bdS PC.nil (by rfl) ?_))))))
  refine stA h 2 rfl rfl rfl rfl fun w h => ?_
  refine rcA h 2 rfl rfl ?_
  exact lf9 _ (h.pick [] (by decide) rfl)
 rw [h2] at hraw cc2
 simp only [Option.bind_some] at hraw
 obtain ⟨in2, dl2⟩ := decS_in h2
 obtain ⟨t, ht⟩ : ∃ t : RS, t = (n, d) := ⟨_, rfl⟩
 rw [← ht] at hraw
 have ht1 : t.1 = n := by rw [ht]
 have ht2 : t.2 = d := by rw [ht]
 subst ht1
 subst ht2
 clear h1 h2 ht
 unfold s_unit_Decode
 have h := Hp.init [] w0
 refine alS h fun g1 w h => ?_
 refine Bn_ltF (by omega) (Gd_F (Gd_F (Gd_F (Bt_lenT ?_))))
 refine Gd_F (Bn_gtF (by omega) (Pick_F (If_F (cl1 h n_wire_String (cc1 h.ext) fun w h => ?_))))
 refine Ex3 (Bn_neF (by omega) (If_F (cl1 h n_wire_String (cc2 h.ext) fun w h => ?_)))
 refine Ex3 (alS h fun g2 w h => ?_)
 refine Lp3.mk (fun a e i W => (i = .int .i64 0 ∧ e = .int .i64 0 ∧ ∃ (pos : Nat),  a = .int .i64 ((p + pos : Nat) : Int) ∧ p + pos ≤ s.length ∧ rawQ (s.drop p) = r0 (s.drop p) t pos ∧ Hp [] w0 W [bx g2 tA4 [.int .i64 0, .int .i64 0, .int .i64 0, .int .i64 0], bx g1 tQy (fQ q0)]) ∨ (i = .int .i64 1 ∧ e = .int .i64 0 ∧ ∃ (x1 : Int) (pos : Nat),  a = .int .i64 ((p + pos : Nat) : Int) ∧ p + pos ≤ s.length ∧ rawQ (s.drop p) = r1 (s.drop p) t x1 pos ∧ Hp [] w0 W [bx g2 tA4 [.int .i64 x1, .int .i64 0, .int .i64 0, .int .i64 0], bx g1 tQy (fQ q0)]) ∨ (i = .int .i64 2 ∧ e = .int .i64 0 ∧ ∃ (x1 x2 : Int) (pos : Nat),  a = .int .i64 ((p + pos : Nat) : Int) ∧ p + pos ≤ s.length ∧ rawQ (s.drop p) = r2 (s.drop p) t x1 x2 pos ∧ Hp [] w0 W [bx g2 tA4 [.int .i64 x1, .int .i64 x2, .int .i64 0, .int .i64 0], bx g1 tQy (fQ q0)]) ∨ (i = .int .i64 3 ∧ e = .int .i64 0 ∧ ∃ (x1 x2 x3 : Int) (pos : Nat),  a = .int .i64 ((p + pos : Nat) : Int) ∧ p + pos ≤ s.length ∧ rawQ (s.drop p) = r3 (s.drop p) t x1 x2 x3 pos ∧ Hp [] w0 W [bx g2 tA4 [.int .i64 x1, .int .i64 x2, .int .i64 x3, .int .i64 0], bx g1 tQy (fQ q0)]) ∨ (i = .int .i64 4 ∧ e = .int .i64 0 ∧ ∃ (x1 x2 x3 x4 : Int) (pos : Nat),  a = .int .i64 ((p + pos : Nat) : Int) ∧ p + pos ≤ s.length ∧ rawQ (s.drop p) = r4 (s.drop p) t x1 x2 x3 x4 pos ∧ Hp [] w0 W [bx g2 tA4 [.int .i64 x1, .int .i64 x2, .int .i64 x3, .int .i64 x4], bx g1 tQy (fQ q0)]) ∨ (∃ (j a1 a2 a3 a4 b : Int), i = .int .i64 j ∧ 1 ≤ j ∧ j ≤ 4 ∧ e = .int .i64 10 ∧ a = .int .i64 b ∧ rawQ (s.drop p) = none ∧ Hp [] w0 W [bx g2 tA4 [.int .i64 a1, .int .i64 a2, .int .i64 a3, .int .i64 a4], bx g1 tQy (fQ q0)])) (fun _ e i _ => match i with | .int _ i' => 4 - i'.toNat | _ => 0) (.inl ⟨rfl, rfl, k1 + k2, by rw [Nat.add_assoc], by omega, hraw, h⟩) ?_
 clear h
 rintro _ _ _ W (⟨rfl, rfl, pos, rfl, hpos, hr, h⟩ | ⟨rfl, rfl, x1, pos, rfl, hpos, hr, h⟩ | ⟨rfl, rfl, x1, x2, pos, rfl, hpos, hr, h⟩ | ⟨rfl, rfl, x1, x2, x3, pos, rfl, hpos, hr, h⟩ | ⟨rfl, rfl, x1, x2, x3, x4, pos, rfl, hpos, hr, h⟩ | ⟨j, a1, a2, a3, a4, b, rfl, j1, j4, rfl, rfl, hr, h⟩)
 ·have cc5 := fun {W : World} (_ : Ext w0 W) => c_wInt (w0 := W) hs hpos
  have hlq : (s.drop (p + pos)).length = s.length - (p + pos) := List.length_drop
  unfold r0 at hr
  rw [List.drop_drop] at hr
  by_cases hd : decI (s.drop (p + pos)) = none
  ·rw [hd] at hr cc5
   refine Bn_ltT (by omega) (Gd_T (Gd_T (Bn_eqT (by omega) (Pick_T (If_T (cl1 h n_wire_Int (cc5 h.ext) fun w h => ?_))))))
   refine Ex3 (iaZ (by decide) (by decide) ?_)
   refine st1 h 0 rfl rfl rfl rfl fun w h => ?_
   refine Bn_ad (by omega) (by omega) ?_
   dsimp only [List.set] at h
   exact ⟨.inr (.inr (.inr (.inr (.inr ⟨_, _, _, _, _, _, rfl, by decide, by decide, rfl, rfl, hr, h⟩)))), by decide⟩
  ·refine Exists.elim (opt_ex hd) fun c hc => Exists.elim hc fun m hd => ?_
   clear hc
   have hin := decI_in hd
   rw [hd] at hr cc5
   simp only [Option.bind_some] at hr
   refine Bn_ltT (by omega) (Gd_T (Gd_T (Bn_eqT (by omega) (Pick_T (If_T (cl1 h n_wire_Int (cc5 h.ext) fun w h => ?_))))))
   refine Ex3 (iaZ (by decide) (by decide) ?_)
   refine st1 h 0 rfl rfl rfl rfl fun w h => ?_
   refine Bn_ad (by omega) (by omega) ?_
   dsimp only [List.set] at h
   exact ⟨.inr (.inl ⟨rfl, rfl, c,  pos + m, by rw [Nat.add_assoc], by omega, hr, h⟩), by decide⟩
 ·have cc5 := fun {W : World} (_ : Ext w0 W) => c_wInt (w0 := W) hs hpos
  have hlq : (s.drop (p + pos)).length = s.length - (p + pos) := List.length_drop
  unfold r1 at hr
  rw [List.drop_drop] at hr
  by_cases hd : decI (s.drop (p + pos)) = none
  ·rw [hd] at hr cc5
   refine Bn_ltT (by omega) (Gd_T (Gd_T (Bn_eqT (by omega) (Pick_T (If_T (cl1 h n_wire_Int (cc5 h.ext) fun w h => ?_))))))
   refine Ex3 (iaZ (by decide) (by decide) ?_)
   refine st1 h 0 rfl rfl rfl rfl fun w h => ?_
   refine Bn_ad (by omega) (by omega) ?_
   dsimp only [List.set] at h
   exact ⟨.inr (.inr (.inr (.inr (.inr ⟨_, _, _, _, _, _, rfl, by decide, by decide, rfl, rfl, hr, h⟩)))), by decide⟩
  ·refine Exists.elim (opt_ex hd) fun c hc => Exists.elim hc fun m hd => ?_
   clear hc
   have hin := decI_in hd
   rw [hd] at hr cc5
   simp only [Option.bind_some] at hr
   refine Bn_ltT (by omega) (Gd_T (Gd_T (Bn_eqT (by omega) (Pick_T (If_T (cl1 h n_wire_Int (cc5 h.ext) fun w h => ?_))))))
   refine Ex3 (iaZ (by decide) (by decide) ?_)
   refine st1 h 0 rfl rfl rfl rfl fun w h => ?_
   refine Bn_ad (by omega) (by omega) ?_
   dsimp only [List.set] at h
   exact ⟨.inr (.inr (.inl ⟨rfl, rfl, x1, c,  pos + m, by rw [Nat.add_assoc], by omega, hr, h⟩)), by decide⟩
 ·have cc5 := fun {W : World} (_ : Ext w0 W) => c_wInt (w0 := W) hs hpos
  have hlq : (s.drop (p + pos)).length = s.length - (p + pos) := List.length_drop
  unfold r2 at hr
  rw [List.drop_drop] at hr
  by_cases hd : decI (s.drop (p + pos)) = none
  ·rw [hd] at hr cc5
   refine Bn_ltT (by omega) (Gd_T (Gd_T (Bn_eqT (by omega) (Pick_T (If_T (cl1 h n_wire_Int (cc5 h.ext) fun w h => ?_))))))
   refine Ex3 (iaZ (by decide) (by decide) ?_)
   refine st1 h 0 rfl rfl rfl rfl fun w h => ?_
   refine Bn_ad (by omega) (by omega) ?_
   dsimp only [List.set] at h
   exact ⟨.inr (.inr (.inr (.inr (.inr ⟨_, _, _, _, _, _, rfl, by decide, by decide, rfl, rfl, hr, h⟩)))), by decide⟩
  ·refine Exists.elim (opt_ex hd) fun c hc => Exists.elim hc fun m hd => ?_
   clear hc
   have hin := decI_in hd
   rw [hd] at hr cc5
   simp only [Option.bind_some] at hr
   refine Bn_ltT (by omega) (Gd_T (Gd_T (Bn_eqT (by omega) (Pick_T (If_T (cl1 h n_wire_Int (cc5 h.ext) fun w h => ?_))))))
   refine Ex3 (iaZ (by decide) (by decide) ?_)
   refine st1 h 0 rfl rfl rfl rfl fun w h => ?_
   refine Bn_ad (by omega) (by omega) ?_
   dsimp only [List.set] at h
   exact ⟨.inr (.inr (.inr (.inl ⟨rfl, rfl, x1, x2, c,  pos + m, by rw [Nat.add_assoc], by omega, hr, h⟩))), by decide⟩
 ·have cc5 := fun {W : World} (_ : Ext w0 W) => c_wInt (w0 := W) hs hpos
  have hlq : (s.drop (p + pos)).length = s.length - (p + pos) := List.length_drop
  unfold r3 at hr
  rw [List.drop_drop] at hr
  by_cases hd : decI (s.drop (p + pos)) = none
  ·rw [hd] at hr cc5
   refine Bn_ltT (by omega) (Gd_T (Gd_T (Bn_eqT (by omega) (Pick_T (If_T (cl1 h n_wire_Int (cc5 h.ext) fun w h => ?_))))))
   refine Ex3 (iaZ (by decide) (by decide) ?_)
   refine st1 h 0 rfl rfl rfl rfl fun w h => ?_
   refine Bn_ad (by omega) (by omega) ?_
   dsimp only [List.set] at h
   exact ⟨.inr (.inr (.inr (.inr (.inr ⟨_, _, _, _, _, _, rfl, by decide, by decide, rfl, rfl, hr, h⟩)))), by decide⟩
  ·refine Exists.elim (opt_ex hd) fun c hc => Exists.elim hc fun m hd => ?_
   clear hc
   have hin := decI_in hd
   rw [hd] at hr cc5
   simp only [Option.bind_some] at hr
   refine Bn_ltT (by omega) (Gd_T (Gd_T (Bn_eqT (by omega) (Pick_T (If_T (cl1 h n_wire_Int (cc5 h.ext) fun w h => ?_))))))
   refine Ex3 (iaZ (by decide) (by decide) ?_)
   refine st1 h 0 rfl rfl rfl rfl fun w h => ?_
   refine Bn_ad (by omega) (by omega) ?_
   dsimp only [List.set] at h
   exact ⟨.inr (.inr (.inr (.inr (.inl ⟨rfl, rfl, x1, x2, x3, c,  pos + m, by rw [Nat.add_assoc], by omega, hr, h⟩)))), by decide⟩
 ·unfold r4 at hr
  have cc5 := fun {W : World} (x : Ext w0 W) => c_unit (w := W) (u := (x1, x2, x3, x4))
  have hkq : QTk ⟨t, x1, x2, x3, x4⟩ := ⟨Nat.le_trans nl1 (by decide), Nat.le_trans dl2 (by decide)⟩
  by_cases hv : (valQ ⟨t, x1, x2, x3, x4⟩).isSome = true
  ·rw [decQ_y hr hv] at lf9
   have cc6 := fun {W : World} (x : Ext w0 W) => c_ValidQ (w0 := W) hkq hv (hT.ext x)
   refine Bn_ltF (by omega) (Gd_FT (Gd_FT (Pick_F (If_F (bdS (PC.cons (by rfl) (PC.cons (by rfl) PC.nil)) (by rfl) ?_)))))
   refine ldA h 0 rfl rfl ?_
   refine cl1 h n_unit_unit (cc5 h.ext) fun w h => ?_
   refine bdS (PC.cons (by rfl) (PC.cons (by rfl) PC.nil)) (by rfl) ?_
   refine alS h fun g3 w h => ?_
   refine stA h 0 rfl rfl rfl rfl fun w h => ?_
   refine Bn_neF (by omega) (Gd_F (ldA h 0 rfl rfl ?_))
   refine Gd_F (cl1 h n_unit_Valid (cc6 h.ext) fun w h => ?_)
   refine Gd_F (Un_T (Pick_F (If_F (ldA h 0 rfl rfl ?_))))
   refine stA h 2 rfl rfl rfl rfl fun w h => ?_
   refine rcA h 2 rfl rfl ?_
   exact lf9 _ (h.pick [] (by decide) rfl)
  ·have hv : (valQ ⟨t, x1, x2, x3, x4⟩).isSome = false := by simpa using hv
   rw [decQ_f hr hv] at lf9
   have cc6 := fun {W : World} (x : Ext w0 W) => c_ValidQ (w0 := W) hkq hv (hT.ext x)
   refine Bn_ltF (by omega) (Gd_FT (Gd_FT (Pick_F (If_F (bdS (PC.cons (by rfl) (PC.cons (by rfl) PC.nil)) (by rfl) ?_)))))
   refine ldA h 0 rfl rfl ?_
   refine cl1 h n_unit_unit (cc5 h.ext) fun w h => ?_
   refine bdS (PC.cons (by rfl) (PC.cons (by rfl) PC.nil)) (by rfl) ?_
   refine alS h fun g3 w h => ?_
   refine stA h 0 rfl rfl rfl rfl fun w h => ?_
   refine Bn_neF (by omega) (Gd_F (ldA h 0 rfl rfl ?_))
   refine Gd_F (cl1 h n_unit_Valid (cc6 h.ext) fun w h => ?_)
   refine Gd_F (Un_F (Pick_F (If_T (bdS PC.nil (by rfl) ?_))))
   refine stA h 2 rfl rfl rfl rfl fun w h => ?_
   refine rcA h 2 rfl rfl ?_
   exact lf9 _ (h.pick [] (by decide) rfl)
 ·rw [decQ_n hr] at lf9
  have cc5 := fun {W : World} (x : Ext w0 W) => c_unit (w := W) (u := (a1, a2, a3, a4))
  by_cases hj : j < 4
  ·refine Bn_ltT (by omega) (Gd_T (Gd_T (Bn_eqF (by omega) (Pick_T (If_F (bdS (PC.cons (by rfl) (PC.cons (by rfl) PC.nil)) (by rfl) ?_))))))
   refine ldA h 0 rfl rfl ?_
   refine cl1 h n_unit_unit (cc5 h.ext) fun w h => ?_
   refine bdS (PC.cons (by rfl) (PC.cons (by rfl) PC.nil)) (by rfl) ?_
   refine alS h fun g3 w h => ?_
   refine stA h 0 rfl rfl rfl rfl fun w h => ?_
   refine Bn_neT (by omega) (Gd_TF (Gd_TF (Gd_TF (Pick_T (If_T (bdS PC.nil (by rfl) ?_))))))
   refine stA h 2 rfl rfl rfl rfl fun w h => ?_
   refine rcA h 2 rfl rfl ?_
   exact lf9 _ (h.pick [] (by decide) rfl)
  ·refine Bn_ltF (by omega) (Gd_FT (Gd_FT (Pick_F (If_F (bdS (PC.cons (by rfl) (PC.cons (by rfl) PC.nil)) (by rfl) ?_)))))
   refine ldA h 0 rfl rfl ?_
   refine cl1 h n_unit_unit (cc5 h.ext) fun w h => ?_
   refine bdS (PC.cons (by rfl) (PC.cons (by rfl) PC.nil)) (by rfl) ?_
   refine alS h fun g3 w h => ?_
   refine stA h 0 rfl rfl rfl rfl fun w h => ?_
   refine Bn_neT (by omega) (Gd_TF (Gd_TF (Gd_TF (Pick_T (If_T (bdS PC.nil (by rfl) ?_))))))
   refine stA h 2 rfl rfl rfl rfl fun w h => ?_
   refine rcA h 2 rfl rfl ?_
   exact lf9 _ (h.pick [] (by decide) rfl)
end
end Go.Proofs.YtdbcpkihokagkaaGreatDoor
