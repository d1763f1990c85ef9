/-
  Contracts and plain lemmas. By an AI agent.
-/
import Derived.Test.YtdbcpkihokagkaaGreatDoorUnG
import Derived.Test.YtdbcpkihokagkaaGreatDoorUnM
set_option linter.unusedSimpArgs false
set_option linter.unusedVariables false
set_option linter.unusedSectionVars false
namespace Go.Proofs.YtdbcpkihokagkaaGreatDoor
open Go Go.Eng Go.Proofs Go.Num Go.RowKit
set_option maxRecDepth 100000
section
variable {w : World} {K : Value → World → Prop} {x y : Int}
theorem Cv_a (h0 : 0 ≤ x) (h1 : x < 256) (hk : K (.int .u64 x) w) : Cv Tryz.prog 5 109 (.int .u8 x) w K :=
 Cv_i (by rw [Tryz.underlying5]; rfl) Tryz.underlying109 (wu64 (by omega) (by omega)) hk
theorem Cv_c (h0 : 0 ≤ x) (h1 : x ≤ 9223372036854775807) (hk : K (.int .i64 x) w) : Cv Tryz.prog 109 3 (.int .u64 x) w K :=
 Cv_i (by rw [Tryz.underlying109]; rfl) Tryz.underlying3 (w64 (by omega) (by omega)) hk
theorem Cv_n (hw : x % 18446744073709551616 = y) (hk : K (.int .u64 y) w) : Cv Tryz.prog 3 109 (.int .i64 x) w K :=
 Cv_i (by rw [Tryz.underlying3]; rfl) Tryz.underlying109 (by rw [IntKind.wrap_u64]; exact hw) hk
theorem Cv_s {l : List UInt8} {v : Value} (h : SlC w 1 v l.length (l.map fun b => Value.int .u8 (b.toNat : Int))) (hk : K (str l) w) : Cv Tryz.prog 44 9 v w K :=
 Cv_bs Tryz.underlying44 Tryz.underlying5 Tryz.underlying9 h hk
end
theorem c_groups {w0 : World} {z : Int} : Calls Tryz.prog 100 #[.int .u64 z] w0 (Ret fun r w' => Ext w0 w' ∧ ∃ g, r = .func (.func 132) #[] #[pr g 0] ∧ Blk w' g 109 [.int .u64 z] ∧ w0.heap.size ≤ g) := by
 apply e_wire_groups
 unfold s_wire_groups
 have h := Hp.init [] w0
 refine bx1 h rfl fun g1 w h => ?_
 have k1 : w0.heap.size ≤ g1 := by
  have := (h.ks _ (List.mem_of_getElem? (i := 0) rfl) g1 (by simp)).2
  simpa using this
 exact Ret.mk ⟨h.ext, g1, rfl, h.get (i := 0) rfl, k1⟩
theorem it_groups {w : World} {g : Nat} {z : Int} {J : Nat → World → Prop} (h0 : 0 ≤ z) (h1 : z < 128) (hJ : ∀ i W, J i W → W.cell? ⟨g, 0, none⟩ = some (.int .u64 z)) :
 Iter Tryz.prog 132 #[pr g 0] [[.int .u8 z, .bool true]] w J := by
 intro l JJ XX W1 hW1 hJJ hst hXst hround h0'
 have hc := hJ 0 W1 (hJJ _ _ h0')
 have hr := hround 0 _ W1 rfl h0'
 apply e_wire_groups_1
 unfold s_wire_groups_1
 refine Lp0.mk (fun W => W = W1) (fun _ => 0) rfl ?_
 rintro _ rfl
 have e1 : bits .and .u64 z 127 = z := by
  have e : bits .and .u64 z ((127 : Nat) : Int) = z % ((2 ^ 7 : Nat) : Int) := and_u64 (j := 7) (m := 127) h0 (by omega) rfl (by decide)
  have e7 : ((2 ^ 7 : Nat) : Int) = 128 := by decide
  have e8 : ((127 : Nat) : Int) = 127 := rfl
  rw [e7, e8] at e
  rw [e]; omega
 have e2 : IntKind.u8.wrap z = z := wu8 h0 (by omega)
 ((try simp -dsimp [go_sem, hc, e1, e2]); repeat (simp -dsimp (disch := omega) only [gL, gI]; try simp -dsimp [go_sem, hc, e1, e2]))
 refine Cw_y hr ?_
 rintro bb W' (⟨rfl, h⟩ | ⟨rfl, h⟩)
 ·((try simp -dsimp [go_sem]); repeat (simp -dsimp (disch := omega) only [gL, gI]; try simp -dsimp [go_sem]))
  exact .inl h
 ·((try simp -dsimp [go_sem]); repeat (simp -dsimp (disch := omega) only [gL, gI]; try simp -dsimp [go_sem]))
  exact .inr h
abbrev tU64 : TypeId := 109
abbrev tBs : TypeId := 44
theorem zig_i {n : Int} (h : zig n < 128) : -64 ≤ n ∧ n ≤ 63 := by
 unfold zig at h; split at h <;> omega
theorem xor_zig {n : Int} (h : zig n < 128) : bits .xor .u64 (n % 18446744073709551616 * 2 % 18446744073709551616) (n / 9223372036854775808 % 18446744073709551616) = (zig n : Int) := by
 have hn := zig_i h
 by_cases h0 : n < 0
 ·rw [show n / 9223372036854775808 % 18446744073709551616 = 18446744073709551615 by omega, xor_1u (by omega) (by omega)]
  unfold zig; rw [if_pos h0]; omega
 ·rw [show n / 9223372036854775808 % 18446744073709551616 = 0 by omega, xor_0u (by omega) (by omega)]
  unfold zig; rw [if_neg h0]; omega
theorem c_PutInt {w0 : World} {n : Int} (hz : zig n < 128) : Calls Tryz.prog 60 #[.int .i64 n] w0 (Ret fun r w' => Ext w0 w' ∧ r = .tuple #[str (putI n), .int .i64 0]) := by
 have hn := zig_i hz
 have hx := xor_zig hz
 rw [putI_small hz]
 obtain ⟨z, hzz⟩ : ∃ z : Nat, zig n = z := ⟨_, rfl⟩
 rw [hzz] at hz hx ⊢
 apply e_wire_PutInt
 unfold s_wire_PutInt
 have h := Hp.init [] w0
 refine Bn_ltF (by omega) (Gd_F (Gd_F (Bn_gtF (by omega) (Pick_F (If_F (alS h fun g1 w h => ?_))))))
 refine Cv_n rfl ?_
 refine Bu_sl1 rfl ?_
 refine Bs_63 rfl ?_
 refine Cv_n rfl ?_
 refine Bx_v rfl hx ?_
 refine Cl_i n_wire_groups c_groups ?_
 rintro _ W1 ⟨x, g, rfl, hb, hg⟩
 replace h := h.xn x (bx_at hb) (fun k hk => by simp at hk; subst hk; exact ⟨hg, hb.lt⟩)
 have hw1 := h.size
 have kg := h.lt 0 rfl
 have kg1 := h.lt 1 rfl
 refine Rf2.mk 132 #[pr g 0] [(.int .u8 z, .bool true)] (fun i W => (i = 0 ∧ Hp [] w0 W [bx g tU64 [.int .u64 z], bx g1 tBs [.slice none 0 0]]) ∨ (i = 1 ∧ Hp [] w0 W [] ∧ ∃ v, Blk W g tU64 [.int .u64 z] ∧ Blk W g1 tBs [v] ∧ SlC W 1 v 1 [.int .u8 z])) (fun _ _ => False) rfl n_wire_groups_1
  (it_groups (by omega) (by omega) ?_) ?_ ?_ (.inl ⟨rfl, h⟩) ?_ ?_ ?_ (by simp)
 ·rintro i W (⟨_, h⟩ | ⟨_, _, v, h, _⟩)
  ·exact (h.get (i := 0) rfl : Blk W g tU64 _).cell rfl
  ·exact h.cell rfl
 ·rintro i W W' (⟨e, h⟩ | ⟨e, h, v, b1, b2, b3⟩) b
  ·exact .inl ⟨e, h.bk (by simp; omega) hw1 b⟩
  ·exact .inr ⟨e, h.bk (by simp) hw1 b, v, b1.bk b, b2.bk b, b3.bk b⟩
 ·exact fun _ _ _ h _ => h
 ·rintro a0 a1 i W hi (⟨rfl, h⟩ | ⟨rfl, _⟩) hs
  rotate_left
  ·simp at hi
  ·simp at hi
   obtain ⟨rfl, rfl⟩ := hi
   replace h := h.fr W1.heap.size hw1 (by simp; omega)
   refine Jn1.mk fun K hK => ?_
   have lf1 : ∀ w, Hp [] w0 w [frE W1.heap.size W, bx g tU64 [.int .u64 z], bx g1 tBs [.slice none 0 0]] → K (.int .u8 z) w := by
    clear h
    intro w h
    refine hK _ _ ?_
    clear hK
    replace h := h.nil 5 1
    refine Eng.ld1 h 3 rfl rfl (bs1A h (by rfl) (by decide) (by rfl) (by decide) fun v1 w h => ?_)
    refine apR (by rfl) (by decide) h 1 rfl (qZ 0 h rfl) (by first | rfl | assumption) (by omega) fun v2 w h => ?_
    refine st1w h 4 rfl (qZ 1 h rfl) rfl fun w h => ?_
    dsimp only [List.set] at h
    exact ⟨.inr ⟨rfl, h.pick [] (by decide) rfl, _, h.get (i := 3) rfl, h.get (i := 4) rfl, h.sl (i := 1) rfl⟩, h.get (i := 2) rfl⟩
   clear hK
   refine Un_T (If_F ?_)
   exact lf1 _ h
 ·rintro D W hD hd (⟨hi, _⟩ | ⟨_, h, v, b1, b2, b3⟩)
  ·simp at hi
  refine V_of (run_ld1 b2 rfl) ?_
  refine Cv_s (l := [UInt8.ofNat z]) (by simp only [List.map_cons, List.map_nil, List.length_cons, List.length_nil]; rw [u8_toNat (by omega)]; exact b3) ?_
  replace h := h.df hd (by omega) (by simp)
  refine tkE h 0 rfl fun w h => ?_
  exact Ret.mk ⟨h.ext, rfl⟩
 ·exact fun _ _ _ _ h => h.elim
theorem c_PutString {w0 : World} {s : List UInt8} (hs : s.length ≤ 63) : Calls Tryz.prog 59 #[str s] w0 (Ret fun r w' => Ext w0 w' ∧ r = .tuple #[str (putS s), .int .i64 0]) := by
 have cc1 := fun {W : World} (_ : Ext w0 W) => c_PutInt (w0 := W) (n := (s.length : Int)) (by unfold zig; rw [if_neg (by omega)]; omega)
 have hl : (putI (s.length : Int)).length ≤ 9 := putZ_len 9 _ (by rw [p128]; exact zig_lt (by omega) (by omega)) (by decide)
 apply e_wire_PutString
 unfold s_wire_PutString
 have h := Hp.init [] w0
 refine Bt_lenT ?_
 refine Bn_gtF (by omega) (If_F (Bt_lenT ?_))
 refine cl1 h n_wire_PutInt (cc1 h.ext) fun w h => ?_
 refine Ex2 (Bn_cat (by first | omega | (simp only [List.length_append, List.length_cons, List.length_nil]; omega)) ?_)
 exact Ret.mk ⟨h.ext, rfl⟩
section
variable {w0 : World} {n : Int}
end
theorem putI_len9 {n : Int} (h0 : -4611686018427387903 ≤ n) (h1 : n ≤ 4611686018427387903) : (putI n).length ≤ 9 := putZ_len 9 _ (by rw [p128]; exact zig_lt h0 h1) (by decide)
theorem e3_zig {n : Int} (h : e3 n) : zig n < 128 := by
 have h1 := h.1
 have h2 := h.2
 unfold zig; split <;> omega
theorem putS_len {s : List UInt8} {k : Nat} (h : s.length ≤ k) (hk : k ≤ 65536) : (putS s).length ≤ k + 9 := by
 have := putI_len9 (n := (s.length : Int)) (by omega) (by omega)
 unfold putS
 rw [List.length_append]; omega
abbrev eN2 : Bool → Int
 | true => 0
 | false => 50
noncomputable abbrev enc2 (q : QT) : List UInt8 := if (valQ q).isSome then encQ q else []
section
variable {w0 : World} {q : QT} (hk : QTk q)
include hk
theorem c_uEncode (hT : Tab w0) : Calls Tryz.prog 27 #[vQ q] w0 (Ret fun r w' => Ext w0 w' ∧ r = .tuple #[str (enc2 q), .int .i64 (eN2 (valQ q).isSome)]) := by
 unfold enc2
 rcases hv : (valQ q).isSome with _ | _
 ·have cc1 := fun {W : World} (x : Ext w0 W) => c_ValidQ (w0 := W) hk hv (hT.ext x)
  apply e_unit_Encode
  unfold s_unit_Encode
  have h := Hp.init [] w0
  refine bxA h fun g1 w h => ?_
  refine ldA h 0 rfl rfl ?_
  refine cl1 h n_unit_Valid (cc1 h.ext) fun w h => ?_
  refine Un_F (If_T ?_)
  exact Ret.mk ⟨h.ext, rfl⟩
 have cc1 := fun {W : World} (x : Ext w0 W) => c_ValidQ (w0 := W) hk hv (hT.ext x)
 have cc2 := fun {W : World} (x : Ext w0 W) => c_exponents (w := W) (u := q.u)
 obtain ⟨b1, b2, hu⟩ := enc_bd hv
 have cc3 := fun {W : World} (x : Ext w0 W) => c_PutString (w0 := W) (s := q.p.1) (by omega)
 have cc4 := fun {W : World} (x : Ext w0 W) => c_PutString (w0 := W) (s := q.p.2) (by omega)
 have cc5 := fun {W : World} (x : Ext w0 W) => c_PutInt (w0 := W) (e3_zig hu.1)
 have cc6 := fun {W : World} (x : Ext w0 W) => c_PutInt (w0 := W) (e3_zig hu.2.1)
 have cc7 := fun {W : World} (x : Ext w0 W) => c_PutInt (w0 := W) (e3_zig hu.2.2.1)
 have cc8 := fun {W : World} (x : Ext w0 W) => c_PutInt (w0 := W) (e3_zig hu.2.2.2)
 have z1 := putS_len b1 (by decide)
 have z2 := putS_len b2 (by decide)
 have j0a := hu.1.1
 have j0b := hu.1.2
 have j0l := putI_len9 (n := q.u.1) (by omega) (by omega)
 have j1a := hu.2.1.1
 have j1b := hu.2.1.2
 have j1l := putI_len9 (n := q.u.2.1) (by omega) (by omega)
 have j2a := hu.2.2.1.1
 have j2b := hu.2.2.1.2
 have j2l := putI_len9 (n := q.u.2.2.1) (by omega) (by omega)
 have j3a := hu.2.2.2.1
 have j3b := hu.2.2.2.2
 have j3l := putI_len9 (n := q.u.2.2.2) (by omega) (by omega)
 simp only [if_true]
 have he : encQ q = putS q.p.1 ++ putS q.p.2 ++ putI q.u.1 ++ putI q.u.2.1 ++ putI q.u.2.2.1 ++ putI q.u.2.2.2 := by
  unfold encQ; simp only [List.append_assoc]
 rw [he]
 apply e_unit_Encode
 unfold s_unit_Encode
 have h := Hp.init [] w0
 refine bxA h fun g1 w h => ?_
 refine ldA h 0 rfl rfl ?_
 refine cl1 h n_unit_Valid (cc1 h.ext) fun w h => ?_
 refine Un_T (If_F (faS (faS (Eng.ld1 h 0 rfl rfl (cl1 h n_wire_PutString (cc3 h.ext) fun w h => ?_)))))
 refine Ex2 (faS (faS (Eng.ld1 h 0 rfl rfl (cl1 h n_wire_PutString (cc4 h.ext) fun w h => ?_))))
 refine Ex2 (Bn_cat (by first | omega | (simp only [List.length_append, List.length_cons, List.length_nil]; omega)) ?_)
 refine faS (ldA h 0 rfl rfl ?_)
 refine cl1 h n_unit_exponents (cc2 h.ext) fun w h => ?_
 refine Lp2.mk (fun a i W => (∃ l : List UInt8, a = str l ∧ ((i = .int .i64 0 ∧ l = putS q.p.1 ++ putS q.p.2) ∨ (i = .int .i64 1 ∧ l = putS q.p.1 ++ putS q.p.2 ++ putI q.u.1) ∨ (i = .int .i64 2 ∧ l = putS q.p.1 ++ putS q.p.2 ++ putI q.u.1 ++ putI q.u.2.1) ∨ (i = .int .i64 3 ∧ l = putS q.p.1 ++ putS q.p.2 ++ putI q.u.1 ++ putI q.u.2.1 ++ putI q.u.2.2.1) ∨ (i = .int .i64 4 ∧ l = putS q.p.1 ++ putS q.p.2 ++ putI q.u.1 ++ putI q.u.2.1 ++ putI q.u.2.2.1 ++ putI q.u.2.2.2))) ∧ Hp [] w0 W [])
  (fun _ i _ => match i with | .int _ i' => 4 - i'.toNat | _ => 0) ⟨⟨_, rfl, .inl ⟨rfl, rfl⟩⟩, h.drop 1⟩ ?_
 clear h
 rintro _ _ W ⟨⟨l, rfl, (⟨rfl, hl⟩ | ⟨rfl, hl⟩ | ⟨rfl, hl⟩ | ⟨rfl, hl⟩ | ⟨rfl, hl⟩)⟩, h⟩
 ·have hll : l.length ≤ 140 + 9 * 0 := by rw [hl]; simp only [List.length_append]; omega
  refine Bn_ltT (by omega) (If_T (ixU0 ?_))
  refine cl1 h n_wire_PutInt (cc5 h.ext) fun w h => ?_
  refine Ex2 (Bn_cat (by first | omega | (simp only [List.length_append, List.length_cons, List.length_nil]; omega)) ?_)
  refine Bn_ad (by omega) (by omega) ?_
  refine ⟨?_, ?_⟩
  ·exact ⟨⟨_, rfl, .inr (.inl ⟨rfl, by rw [hl]⟩)⟩, h⟩
  ·decide
 ·have hll : l.length ≤ 140 + 9 * 1 := by rw [hl]; simp only [List.length_append]; omega
  refine Bn_ltT (by omega) (If_T (ixU1 ?_))
  refine cl1 h n_wire_PutInt (cc6 h.ext) fun w h => ?_
  refine Ex2 (Bn_cat (by first | omega | (simp only [List.length_append, List.length_cons, List.length_nil]; omega)) ?_)
  refine Bn_ad (by omega) (by omega) ?_
  refine ⟨?_, ?_⟩
  ·exact ⟨⟨_, rfl, .inr (.inr (.inl ⟨rfl, by rw [hl]⟩))⟩, h⟩
  ·decide
 ·have hll : l.length ≤ 140 + 9 * 2 := by rw [hl]; simp only [List.length_append]; omega
  refine Bn_ltT (by omega) (If_T (ixU2 ?_))
  refine cl1 h n_wire_PutInt (cc7 h.ext) fun w h => ?_
  refine Ex2 (Bn_cat (by first | omega | (simp only [List.length_append, List.length_cons, List.length_nil]; omega)) ?_)
  refine Bn_ad (by omega) (by omega) ?_
  refine ⟨?_, ?_⟩
  ·exact ⟨⟨_, rfl, .inr (.inr (.inr (.inl ⟨rfl, by rw [hl]⟩)))⟩, h⟩
  ·decide
 ·have hll : l.length ≤ 140 + 9 * 3 := by rw [hl]; simp only [List.length_append]; omega
  refine Bn_ltT (by omega) (If_T (ixU3 ?_))
  refine cl1 h n_wire_PutInt (cc8 h.ext) fun w h => ?_
  refine Ex2 (Bn_cat (by first | omega | (simp only [List.length_append, List.length_cons, List.length_nil]; omega)) ?_)
  refine Bn_ad (by omega) (by omega) ?_
  refine ⟨?_, ?_⟩
  ·exact ⟨⟨_, rfl, .inr (.inr (.inr (.inr (⟨rfl, by rw [hl]⟩))))⟩, h⟩
  ·decide
 ·refine Bn_ltF (by omega) (If_F ?_)
  exact Ret.mk ⟨h.ext, by rw [hl]⟩
end
end Go.Proofs.YtdbcpkihokagkaaGreatDoor
