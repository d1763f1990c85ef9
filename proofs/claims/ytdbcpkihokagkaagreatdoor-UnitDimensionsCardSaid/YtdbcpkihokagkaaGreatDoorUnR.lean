/-
  Contracts and plain lemmas. By an AI agent.
-/
import Derived.Test.YtdbcpkihokagkaaGreatDoorUnO
set_option linter.unusedSimpArgs false
set_option linter.unusedVariables false
set_option linter.unusedSectionVars false
namespace Go.Proofs.YtdbcpkihokagkaaGreatDoor
open Go Go.Eng Go.Proofs Go.Num Go.RowKit
set_option maxRecDepth 100000
abbrev dIV (k : Nat) : Option (Int × Nat) → Value
 | some (n, m) => .tuple #[.int .i64 n, .int .i64 ((k + m : Nat) : Int), .int .i64 0]
 | none => .tuple #[.int .i64 0, .int .i64 0, .int .i64 10]
theorem drop_get {s : List UInt8} {k : Nat} {b : UInt8} (h : s[k]? = some b) : s.drop k = b :: s.drop (k + 1) := by
 obtain ⟨hk, e⟩ := List.getElem?_eq_some_iff.1 h
 rw [List.drop_eq_getElem_cons hk, e]
theorem pow128 (j : Nat) : (2 : Nat) ^ (7 * j) = 128 ^ j := by rw [Nat.pow_mul]
theorem pow128_le {j : Nat} (h : j ≤ 8) : 128 ^ j ≤ 72057594037927936 := by
 have : 128 ^ j ≤ 128 ^ 8 := Nat.pow_le_pow_right (by decide) h
 have e : (128 : Nat) ^ 8 = 72057594037927936 := by decide
 omega
theorem zag_xor {z : Nat} (h : z < 9223372036854775808) : bits .xor .i64 ((z : Int) / 2) (-((z : Int) % 2)) = zag z := by
 unfold zag
 by_cases h1 : z % 2 = 1
 ·rw [if_pos h1, show -((z : Int) % 2) = -1 by omega, xor_m1 (by omega) (by omega)]; omega
 ·rw [if_neg h1, show -((z : Int) % 2) = 0 by omega, xor_0i (by omega) (by omega)]; omega
theorem pow_step {z j m : Nat} (hz : z < 128 ^ j) (hm : m < 128) : z + m * 128 ^ j < 128 ^ (j + 1) := by
 have h1 : m * 128 ^ j ≤ 127 * 128 ^ j := Nat.mul_le_mul_right _ (by omega)
 rw [Nat.pow_succ]; omega
section
variable {w0 : World} {s : List UInt8} {k : Nat} (hs : s.length ≤ 1000000) (hk : k ≤ s.length)
include hs hk
theorem c_wInt : Calls Tryz.prog 76 #[str s, .int .i64 (k : Int)] w0 (Ret fun r w' => Ext w0 w' ∧ r = dIV k (decI (s.drop k))) := by
 apply e_wire_Int
 unfold s_wire_Int
 have h := Hp.init [] w0
 refine Bn_ltF (by omega) (Gd_F (Gd_F (Gd_F (Bt_lenT ?_))))
 refine Gd_F (Bn_gtF (by omega) (Pick_F (If_F ?_)))
 refine Lp2.mk (fun a i W => ∃ (z j : Nat), a = .int .u64 (z : Int) ∧ i = .int .i64 (j : Int) ∧ j ≤ 9 ∧ z < 128 ^ j ∧ decI (s.drop k) = vI (9 - j) j z (s.drop (k + j)) ∧ Hp [] w0 W [])
  (fun _ i _ => match i with | .int _ i' => 9 - i'.toNat | _ => 0) ⟨0, 0, rfl, rfl, by decide, by decide, rfl, h⟩ ?_
 clear h
 rintro _ _ W ⟨z, j, rfl, rfl, hj, hz, hd, h⟩
 by_cases hj9 : j = 9
 ·subst hj9
  rw [show decI (s.drop k) = none from hd]
  refine Bn_ltF (by omega) (If_F ?_)
  exact Ret.mk ⟨h.ext, rfl⟩
 obtain ⟨f, hf⟩ : ∃ f, 9 - j = f + 1 := ⟨8 - j, by omega⟩
 rw [hf] at hd
 rcases hb : s[k + j]? with _ | b
 ·have hlen : s.length ≤ k + j := List.getElem?_eq_none_iff.1 hb
  rw [List.drop_eq_nil_of_le hlen] at hd
  rw [show decI (s.drop k) = none from hd]
  refine Bn_ltT (by omega) (If_T (Bn_ad (by omega) (by omega) (Bt_lenT ?_)))
  refine Bn_geT (by omega) (If_T ?_)
  exact Ret.mk ⟨h.ext, rfl⟩
 have hlen : k + j < s.length := (List.getElem?_eq_some_iff.1 hb).1
 rw [drop_get hb] at hd
 unfold vI at hd
 have hb0 := UInt8.toNat_lt b
 obtain ⟨p, hp⟩ : ∃ p, 128 ^ j = p := ⟨_, rfl⟩
 obtain ⟨m, hm⟩ : ∃ m, b.toNat % 128 = m := ⟨_, rfl⟩
 have hp8 := pow128_le (j := j) (by omega)
 have hst := pow_step (m := m) hz (by omega)
 have hst9 : 128 ^ (j + 1) ≤ 9223372036854775808 := by
  rw [← p128]; exact Nat.pow_le_pow_right (by decide) (by omega)
 have h127 : m * p ≤ 127 * p := Nat.mul_le_mul_right _ (by omega)
 rw [hp] at hz hp8 hst
 rw [hm, hp] at hd
 obtain ⟨y, hy⟩ : ∃ y, m * p = y := ⟨_, rfl⟩
 rw [hy] at hst h127 hd
 obtain ⟨z', hz'⟩ : ∃ z', z + y = z' := ⟨_, rfl⟩
 rw [hz'] at hst hd
 have hxr := zag_xor (z := z') (by omega)
 refine Bn_ltT (by omega) (If_T (Bn_ad (by omega) (by omega) (Bt_lenT ?_)))
 refine Bn_geF (by omega) (If_F (Bn_ad (by omega) (by omega) (Ix_s (by rfl) ‹_› (by first | assumption | omega) ?_)))
 refine Bu_an8 (by omega) (by omega) ?_
 refine Cv_a (by omega) (by omega) ?_
 refine Bn_mu (by omega) (by omega) (Bu_sh (j := 7 * j) (k := p) (r := (y : Int)) (by push_cast; rfl) (by omega) (by rw [pow128, hp]) (by rw [← hy, ← hm]; push_cast; rfl) (by omega) (by omega) ?_)
 refine Bu_or (k := 7 * j) (m := (m : Int)) (r := (z' : Int)) (by omega) (by have : z < 2 ^ (7 * j) := by rw [pow128, hp]; exact hz
                                                                             exact_mod_cast this) (by omega) (by rw [← hy, ← hp, ← pow128]; push_cast; rfl) (by omega) (by omega) ?_
 by_cases hb8 : 128 ≤ b.toNat
 ·rw [if_pos hb8] at hd
  refine Bn_geT (by omega) (If_T (Bn_ad (by omega) (by omega) ?_))
  refine ⟨⟨z', j + 1, rfl, rfl, by omega, hst, ?_, h⟩, ?_⟩
  ·rw [hd]; congr 1; omega
  ·show 9 - ((j : Int) + 1).toNat < 9 - (j : Int).toNat
   omega
 rw [if_neg hb8] at hd
 by_cases hbad : (b.toNat = 0 ∧ 0 < j) ∨ zag z' < -4611686018427387903
 ·rw [if_pos hbad] at hd
  rw [hd]
  by_cases hb1 : b.toNat = 0
  ·by_cases hj0 : 0 < j
   ·refine Bn_geF (by omega) (If_F (Bu_sr1 (by omega) ?_))
    refine Cv_c (by omega) (by omega) ?_
    refine Bu_an1 (by omega) (by omega) ?_
    refine Cv_8 (by omega) (by omega) ?_
    refine Eng.Un_ng (by omega) (by omega) (Bx_v rfl ‹_› ?_)
    refine Bn_eqT (by omega) (Gd_T (Gd_T (Bn_gtT (by omega) (Pick_T (Gd_TF (Gd_TF (Pick_T (If_T ?_))))))))
    exact Ret.mk ⟨h.ext, rfl⟩
   ·have hzb : zag z' < -4611686018427387903 := by omega
    refine Bn_geF (by omega) (If_F (Bu_sr1 (by omega) ?_))
    refine Cv_c (by omega) (by omega) ?_
    refine Bu_an1 (by omega) (by omega) ?_
    refine Cv_8 (by omega) (by omega) ?_
    refine Eng.Un_ng (by omega) (by omega) (Bx_v rfl ‹_› ?_)
    refine Bn_eqT (by omega) (Gd_T (Gd_T (Bn_gtF (by omega) (Pick_T (Gd_F (Gd_F (Bn_ltT (by omega) (Pick_F (If_T ?_)))))))))
    exact Ret.mk ⟨h.ext, rfl⟩
  ·have hzb : zag z' < -4611686018427387903 := by omega
   refine Bn_geF (by omega) (If_F (Bu_sr1 (by omega) ?_))
   refine Cv_c (by omega) (by omega) ?_
   refine Bu_an1 (by omega) (by omega) ?_
   refine Cv_8 (by omega) (by omega) ?_
   refine Eng.Un_ng (by omega) (by omega) (Bx_v rfl ‹_› ?_)
   refine Bn_eqF (by omega) (Gd_FT (Gd_FT (Pick_F (Gd_F (Gd_F (Bn_ltT (by omega) (Pick_F (If_T ?_))))))))
   exact Ret.mk ⟨h.ext, rfl⟩
 ·rw [if_neg hbad] at hd
  rw [hd]
  have hzb : -4611686018427387903 ≤ zag z' := by omega
  by_cases hb1 : b.toNat = 0
  ·have hj0 : j = 0 := by omega
   refine Bn_geF (by omega) (If_F (Bu_sr1 (by omega) ?_))
   refine Cv_c (by omega) (by omega) ?_
   refine Bu_an1 (by omega) (by omega) ?_
   refine Cv_8 (by omega) (by omega) ?_
   refine Eng.Un_ng (by omega) (by omega) (Bx_v rfl ‹_› ?_)
   refine Bn_eqT (by omega) (Gd_T (Gd_T (Bn_gtF (by omega) (Pick_T (Gd_F (Gd_F (Bn_ltF (by omega) (Pick_F (If_F (Bn_ad (by omega) (by omega) (Bn_ad (by omega) (by omega) ?_)))))))))))
   exact Ret.mk ⟨h.ext, rfl⟩
  ·refine Bn_geF (by omega) (If_F (Bu_sr1 (by omega) ?_))
   refine Cv_c (by omega) (by omega) ?_
   refine Bu_an1 (by omega) (by omega) ?_
   refine Cv_8 (by omega) (by omega) ?_
   refine Eng.Un_ng (by omega) (by omega) (Bx_v rfl ‹_› ?_)
   refine Bn_eqF (by omega) (Gd_FT (Gd_FT (Pick_F (Gd_F (Gd_F (Bn_ltF (by omega) (Pick_F (If_F (Bn_ad (by omega) (by omega) (Bn_ad (by omega) (by omega) ?_))))))))))
   exact Ret.mk ⟨h.ext, rfl⟩
end
section
variable {w0 : World} {s : List UInt8} {k : Nat} (hs : s.length ≤ 1000000) (hk : k ≤ s.length)
include hs hk
end
abbrev dSV (k : Nat) : Option (List UInt8 × Nat) → Value
 | some (t, m) => .tuple #[str t, .int .i64 ((k + m : Nat) : Int), .int .i64 0]
 | none => .tuple #[str [], .int .i64 0, .int .i64 10]
section
variable {w0 : World} {s : List UInt8} {k : Nat} (hs : s.length ≤ 1000000) (hk : k ≤ s.length)
include hs hk
theorem c_wString : Calls Tryz.prog 75 #[str s, .int .i64 (k : Int)] w0 (Ret fun r w' => Ext w0 w' ∧ r = dSV k (decS (s.drop k))) := by
 have cc1 := fun {W : World} (_ : Ext w0 W) => c_wInt (w0 := W) hs hk
 have hds : decS (s.drop k) = match decI (s.drop k) with
  | none => none
  | some (n, j) => if n < 0 ∨ 65536 < n ∨ ((s.drop k).length : Int) - j < n then none else some (((s.drop k).drop j).take n.toNat, j + n.toNat) := rfl
 have hlk : (s.drop k).length = s.length - k := List.length_drop
 rcases hd : decI (s.drop k) with _ | ⟨n, m⟩
 ·rw [hd] at hds cc1
  rw [show decS (s.drop k) = none from hds]
  apply e_wire_String
  unfold s_wire_String
  have h := Hp.init [] w0
  refine cl1 h n_wire_Int (cc1 h.ext) fun w h => ?_
  refine Ex3 (Bn_neT (by omega) (If_T ?_))
  exact Ret.mk ⟨h.ext, rfl⟩
 obtain ⟨n0, n1, hm, r, hr⟩ := decI_get hd
 have hml : m ≤ s.length - k := by
  rw [← hlk, hr, List.length_append]; omega
 rw [hd] at hds cc1
 by_cases hb : n < 0 ∨ 65536 < n ∨ ((s.drop k).length : Int) - m < n
 ·have hds' : decS (s.drop k) = none := by rw [hds]; exact if_pos hb
  rw [hds']
  by_cases b1 : n < 0
  ·apply e_wire_String
   unfold s_wire_String
   have h := Hp.init [] w0
   refine cl1 h n_wire_Int (cc1 h.ext) fun w h => ?_
   refine Ex3 (Bn_neF (by omega) (If_F (Bn_ltT (by omega) (Gd_TF (Gd_TF (Pick_T (Gd_TF (Gd_TF (Gd_TF (Gd_TF (Gd_TF (Gd_TF (Pick_T (If_T ?_))))))))))))))
   exact Ret.mk ⟨h.ext, rfl⟩
  by_cases b2 : 65536 < n
  ·apply e_wire_String
   unfold s_wire_String
   have h := Hp.init [] w0
   refine cl1 h n_wire_Int (cc1 h.ext) fun w h => ?_
   refine Ex3 (Bn_neF (by omega) (If_F (Bn_ltF (by omega) (Gd_F (Gd_F (Bn_gtT (by omega) (Pick_F (Gd_TF (Gd_TF (Gd_TF (Gd_TF (Gd_TF (Gd_TF (Pick_T (If_T ?_)))))))))))))))
   exact Ret.mk ⟨h.ext, rfl⟩
  ·have b3 : ((s.drop k).length : Int) - m < n := by omega
   apply e_wire_String
   unfold s_wire_String
   have h := Hp.init [] w0
   refine cl1 h n_wire_Int (cc1 h.ext) fun w h => ?_
   refine Ex3 (Bn_neF (by omega) (If_F (Bn_ltF (by omega) (Gd_F (Gd_F (Bn_gtF (by omega) (Pick_F (Gd_F (Gd_F (Gd_F (Bt_lenT ?_)))))))))))
   refine Gd_F (Gd_F (Bn_su (by omega) (by omega) (Gd_F (Bn_gtT (by omega) (Pick_F (If_T ?_))))))
   exact Ret.mk ⟨h.ext, rfl⟩
 ·have hds' : decS (s.drop k) = some (((s.drop k).drop m).take n.toNat, m + n.toNat) := by rw [hds]; exact if_neg hb
  obtain ⟨nn, rfl⟩ : ∃ nn : Nat, n = nn := ⟨n.toNat, by omega⟩
  rw [hds']
  have e1 : (s.drop (k + m)).take (k + m + nn - (k + m)) = ((s.drop k).drop m).take ((nn : Int)).toNat := by
   rw [List.drop_drop]; congr 1; omega
  have e2 : ((k + m : Nat) : Int) + (nn : Int) = ((k + (m + ((nn : Int)).toNat) : Nat) : Int) := by omega
  apply e_wire_String
  unfold s_wire_String
  have h := Hp.init [] w0
  refine cl1 h n_wire_Int (cc1 h.ext) fun w h => ?_
  refine Ex3 (Bn_neF (by omega) (If_F (Bn_ltF (by omega) (Gd_F (Gd_F (Bn_gtF (by omega) (Pick_F (Gd_F (Gd_F (Gd_F (Bt_lenT ?_)))))))))))
  refine Gd_F (Gd_F (Bn_su (by omega) (by omega) (Gd_F (Bn_gtF (by omega) (Pick_F (If_F (Bn_ad (by omega) (by omega) (Sc_tB (a := k + m) (b := k + m + nn) rfl (by push_cast; rfl) (by omega) (by omega) e1 ?_))))))))
  refine Bn_ad (by omega) (by omega) ?_
  exact Ret.mk ⟨h.ext, by rw [e2]⟩
end
end Go.Proofs.YtdbcpkihokagkaaGreatDoor
