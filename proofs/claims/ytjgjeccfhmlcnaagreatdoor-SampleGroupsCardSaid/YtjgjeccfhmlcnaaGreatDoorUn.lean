/-
  Contracts and plain lemmas. By an AI agent.
-/
import Derived.Test.YtjgjeccfhmlcnaaGreatDoorEsA
import Derived.Test.YtjgjeccfhmlcnaaGreatDoorTyp
import Derived.Test.YtjgjeccfhmlcnaaGreatDoorQRatC
import Derived.Test.YtjgjeccfhmlcnaaGreatDoorQMem
import Derived.Lib.SplitLaws
import Derived.Test.YtjgjeccfhmlcnaaGreatDoorPlain
set_option linter.unusedSimpArgs false
set_option linter.unusedVariables false
set_option linter.unusedSectionVars false
namespace Go.Proofs.YtjgjeccfhmlcnaaGreatDoor
open Go Go.Eng Go.Proofs Go.Num Go.RowKit
set_option maxRecDepth 100000
abbrev RS := List UInt8 × List UInt8
abbrev I64 (z : Int) : Prop := -9223372036854775808 ≤ z ∧ z ≤ 9223372036854775807
abbrev U4 := Int × Int × Int × Int
abbrev e3 (n : Int) : Prop := -3 ≤ n ∧ n ≤ 3
abbrev uOk (u : U4) : Prop := e3 u.1 ∧ e3 u.2.1 ∧ e3 u.2.2.1 ∧ e3 u.2.2.2
structure QT where
 p : RS
 u : U4
section
variable {n d : List UInt8} {w : World} (hn : n.length ≤ 1000000) (hd : d.length ≤ 1000000)
include hn hd
end
abbrev F60 (x : Rat) : Prop := SR 60 60 x
theorem itoa_neg1 {z : Int} (h : z < 0) : Lib.itoa z = 45 :: Lib.decDigits z.natAbs := by
 unfold Lib.itoa; rw [if_pos h]; try (congr 2; omega)
theorem itoa_nn1 {z : Int} (h : 0 ≤ z) : Lib.itoa z = Lib.decDigits z.natAbs := by
 unfold Lib.itoa; rw [if_neg (by omega)]; congr 1
 try omega
theorem dec_head (n : Nat) : ∃ b l, Lib.decDigits n = b :: l ∧ b ≠ 45 := by
 rcases h : Lib.decDigits n with _ | ⟨b, l⟩
 ·exact absurd h (dec_ne n)
 ·refine ⟨b, l, rfl, fun e => ?_⟩
  have := dec_isD n b (by rw [h]; simp)
  subst e
  exact absurd this (by decide)
theorem trim_itoa (z : Int) : Lib.trimPrefix (Lib.itoa z) [45] = Lib.decDigits z.natAbs := by
 by_cases h : z < 0
 ·rw [itoa_neg1 h]
  simp [Lib.trimPrefix, Lib.hasPrefix]
 ·rw [itoa_nn1 (by omega)]
  obtain ⟨b, l, e, hb⟩ := dec_head z.natAbs
  rw [e]
  have hbb : ¬ (45 : UInt8) = b := fun e => hb e.symm
  simp [Lib.trimPrefix, Lib.hasPrefix, hbb]
open Classical in
noncomputable def qv (p : RS) : Option Rat := if h : okR p.1 p.2 then some (Classical.choose h) else none
open Classical in
noncomputable def fitO (p : RS) : Option Rat := (qv p).bind fun x => if F60 x then some x else none
section
variable {w : World} {a b c d : Int} {K : Value → World → Prop}
end
section
variable {w0 : World} {u : U4} {b : Bool}
end
open Classical in
noncomputable def valQ (q : QT) : Option Rat := if uOk q.u then fitO q.p else none
structure QTk (q : QT) : Prop where
 p1 : q.p.1.length ≤ 1000000
 p2 : q.p.2.length ≤ 1000000
section
variable {w0 : World} {q : QT} {b : Bool} (hk : QTk q) (hb : (valQ q).isSome = b)
include hk hb
end
end Go.Proofs.YtjgjeccfhmlcnaaGreatDoor
namespace Go.Proofs.YtjgjeccfhmlcnaaGreatDoor
open Go Go.Eng Go.Proofs Go.Num Go.RowKit
set_option maxRecDepth 100000
section
variable {w0 : World} {p : RS} {b : Bool} (k1 : p.1.length ≤ 1000000) (k2 : p.2.length ≤ 1000000)
include k1 k2
end
section
variable {w0 : World} {q : QT} {b : Bool} (hk : QTk q) (hb : (valQ q).isSome = b)
include hk hb
end
section
variable {w : World} {K : Value → World → Prop} {c : Bool} {a b d e a' b' d' e' : Int}
end
section
variable {w : World} {K : Value → World → Prop} {x y : Int}
theorem Cv_a (h0 : 0 ≤ x) (h1 : x < 256) (hk : K (.int .u64 x) w) : Cv Tryz.prog 5 138 (.int .u8 x) w K :=
 Cv_i (by rw [Tryz.underlying5]; rfl) Tryz.underlying138 (wu64 (by omega) (by omega)) hk
theorem Cv_c (h0 : 0 ≤ x) (h1 : x ≤ 9223372036854775807) (hk : K (.int .i64 x) w) : Cv Tryz.prog 138 3 (.int .u64 x) w K :=
 Cv_i (by rw [Tryz.underlying138]; rfl) Tryz.underlying3 (w64 (by omega) (by omega)) hk
theorem Cv_n (hw : x % 18446744073709551616 = y) (hk : K (.int .u64 y) w) : Cv Tryz.prog 3 138 (.int .i64 x) w K :=
 Cv_i (by rw [Tryz.underlying3]; rfl) Tryz.underlying138 (by rw [IntKind.wrap_u64]; exact hw) hk
theorem Cv_s {l : List UInt8} {v : Value} (h : SlC w 1 v l.length (l.map fun b => Value.int .u8 (b.toNat : Int))) (hk : K (str l) w) : Cv Tryz.prog 139 9 v w K :=
 Cv_bs Tryz.underlying139 Tryz.underlying5 Tryz.underlying9 h hk
end
theorem c_groups {w0 : World} {z : Int} : Calls Tryz.prog 121 #[.int .u64 z] w0 (Ret fun r w' => Ext w0 w' ∧ ∃ g, r = .func (.func 146) #[] #[pr g 0] ∧ Blk w' g 138 [.int .u64 z] ∧ w0.heap.size ≤ g) := by
 apply e_wire_groups
 unfold s_wire_groups
 have h := Hp.init [] w0
 refine bx1 h rfl fun g1 w h => ?_
 have k1 : w0.heap.size ≤ g1 := by
  have := (h.ks _ (List.mem_of_getElem? (i := 0) rfl) g1 (by simp)).2
  simpa using this
 exact Ret.mk ⟨h.ext, g1, rfl, h.get (i := 0) rfl, k1⟩
theorem it_groups {w : World} {g : Nat} {z : Int} {J : Nat → World → Prop} (h0 : 0 ≤ z) (h1 : z < 128) (hJ : ∀ i W, J i W → W.cell? ⟨g, 0, none⟩ = some (.int .u64 z)) :
 Iter Tryz.prog 146 #[pr g 0] [[.int .u8 z, .bool true]] w J := by
 intro l JJ XX W1 hW1 hJJ hst hXst hround h0'
 have hc := hJ 0 W1 (hJJ _ _ h0')
 have hr := hround 0 _ W1 rfl h0'
 apply e_wire_groups_1
 unfold s_wire_groups_1
 refine Lp0.mk (fun W => W = W1) (fun _ => 0) rfl ?_
 rintro _ rfl
 have e1 : bits .and .u64 z 127 = z := by
  have e : bits .and .u64 z ((127 : Nat) : Int) = z % ((2 ^ 7 : Nat) : Int) := and_u64 (j := 7) (m := 127) h0 (by omega) rfl (by decide)
  have e7 : ((2 ^ 7 : Nat) : Int) = 128 := by decide
  have e8 : ((127 : Nat) : Int) = 127 := rfl
  rw [e7, e8] at e
  rw [e]; omega
 have e2 : IntKind.u8.wrap z = z := wu8 h0 (by omega)
 ((try simp -dsimp [go_sem, hc, e1, e2]); repeat (simp -dsimp (disch := omega) only [gL, gI]; try simp -dsimp [go_sem, hc, e1, e2]))
 refine Cw_y hr ?_
 rintro bb W' (⟨rfl, h⟩ | ⟨rfl, h⟩)
 ·((try simp -dsimp [go_sem]); repeat (simp -dsimp (disch := omega) only [gL, gI]; try simp -dsimp [go_sem]))
  exact .inl h
 ·((try simp -dsimp [go_sem]); repeat (simp -dsimp (disch := omega) only [gL, gI]; try simp -dsimp [go_sem]))
  exact .inr h
abbrev tU64 : TypeId := 138
abbrev tBs : TypeId := 139
theorem zig_i {n : Int} (h : zig n < 128) : -64 ≤ n ∧ n ≤ 63 := by
 unfold zig at h; split at h <;> omega
theorem xor_zig {n : Int} (h : zig n < 128) : bits .xor .u64 (n % 18446744073709551616 * 2 % 18446744073709551616) (n / 9223372036854775808 % 18446744073709551616) = (zig n : Int) := by
 have hn := zig_i h
 by_cases h0 : n < 0
 ·rw [show n / 9223372036854775808 % 18446744073709551616 = 18446744073709551615 by omega, xor_1u (by omega) (by omega)]
  unfold zig; rw [if_pos h0]; omega
 ·rw [show n / 9223372036854775808 % 18446744073709551616 = 0 by omega, xor_0u (by omega) (by omega)]
  unfold zig; rw [if_neg h0]; omega
theorem c_PutInt {w0 : World} {n : Int} (hz : zig n < 128) : Calls Tryz.prog 93 #[.int .i64 n] w0 (Ret fun r w' => Ext w0 w' ∧ r = .tuple #[str (putI n), .int .i64 0]) := by
 have hn := zig_i hz
 have hx := xor_zig hz
 rw [putI_small hz]
 obtain ⟨z, hzz⟩ : ∃ z : Nat, zig n = z := ⟨_, rfl⟩
 rw [hzz] at hz hx ⊢
 apply e_wire_PutInt
 unfold s_wire_PutInt
 have h := Hp.init [] w0
 refine Bn_ltF (by omega) (Gd_F (Gd_F (Bn_gtF (by omega) (Pick_F (If_F (alS h fun g1 w h => ?_))))))
 refine Cv_n rfl ?_
 refine Bu_sl1 rfl ?_
 refine Bs_63 rfl ?_
 refine Cv_n rfl ?_
 refine Bx_v rfl hx ?_
 refine Cl_i n_wire_groups c_groups ?_
 rintro _ W1 ⟨x, g, rfl, hb, hg⟩
 replace h := h.xn x (bx_at hb) (fun k hk => by simp at hk; subst hk; exact ⟨hg, hb.lt⟩)
 have hw1 := h.size
 have kg := h.lt 0 rfl
 have kg1 := h.lt 1 rfl
 refine Rf2.mk 146 #[pr g 0] [(.int .u8 z, .bool true)] (fun i W => (i = 0 ∧ Hp [] w0 W [bx g tU64 [.int .u64 z], bx g1 tBs [.slice none 0 0]]) ∨ (i = 1 ∧ Hp [] w0 W [] ∧ ∃ v, Blk W g tU64 [.int .u64 z] ∧ Blk W g1 tBs [v] ∧ SlC W 1 v 1 [.int .u8 z])) (fun _ _ => False) rfl n_wire_groups_1
  (it_groups (by omega) (by omega) ?_) ?_ ?_ (.inl ⟨rfl, h⟩) ?_ ?_ ?_ (by simp)
 ·rintro i W (⟨_, h⟩ | ⟨_, _, v, h, _⟩)
  ·exact (h.get (i := 0) rfl : Blk W g tU64 _).cell rfl
  ·exact h.cell rfl
 ·rintro i W W' (⟨e, h⟩ | ⟨e, h, v, b1, b2, b3⟩) b
  ·exact .inl ⟨e, h.bk (by simp; omega) hw1 b⟩
  ·exact .inr ⟨e, h.bk (by simp) hw1 b, v, b1.bk b, b2.bk b, b3.bk b⟩
 ·exact fun _ _ _ h _ => h
 ·rintro a0 a1 i W hi (⟨rfl, h⟩ | ⟨rfl, _⟩) hs
  rotate_left
  ·simp at hi
  ·simp at hi
   obtain ⟨rfl, rfl⟩ := hi
   replace h := h.fr W1.heap.size hw1 (by simp; omega)
   refine Jn1.mk fun K hK => ?_
   have lf1 : ∀ w, Hp [] w0 w [frE W1.heap.size W, bx g tU64 [.int .u64 z], bx g1 tBs [.slice none 0 0]] → K (.int .u8 z) w := by
    clear h
    intro w h
    refine hK _ _ ?_
    clear hK
    replace h := h.nil 5 1
    refine Eng.ld1 h 3 rfl rfl (bs1A h (by rfl) (by decide) (by rfl) (by decide) fun v1 w h => ?_)
    refine apR (by rfl) (by decide) h 1 rfl (qZ 0 h rfl) (by first | rfl | assumption) (by omega) fun v2 w h => ?_
    refine st1w h 4 rfl (qZ 1 h rfl) rfl fun w h => ?_
    dsimp only [List.set] at h
    exact ⟨.inr ⟨rfl, h.pick [] (by decide) rfl, _, h.get (i := 3) rfl, h.get (i := 4) rfl, h.sl (i := 1) rfl⟩, h.get (i := 2) rfl⟩
   clear hK
   refine Un_T (If_F ?_)
   exact lf1 _ h
 ·rintro D W hD hd (⟨hi, _⟩ | ⟨_, h, v, b1, b2, b3⟩)
  ·simp at hi
  refine V_of (run_ld1 b2 rfl) ?_
  refine Cv_s (l := [UInt8.ofNat z]) (by simp only [List.map_cons, List.map_nil, List.length_cons, List.length_nil]; rw [u8_toNat (by omega)]; exact b3) ?_
  replace h := h.df hd (by omega) (by simp)
  refine tkE h 0 rfl fun w h => ?_
  exact Ret.mk ⟨h.ext, rfl⟩
 ·exact fun _ _ _ _ h => h.elim
theorem c_PutString {w0 : World} {s : List UInt8} (hs : s.length ≤ 63) : Calls Tryz.prog 92 #[str s] w0 (Ret fun r w' => Ext w0 w' ∧ r = .tuple #[str (putS s), .int .i64 0]) := by
 have cc1 := fun {W : World} (_ : Ext w0 W) => c_PutInt (w0 := W) (n := (s.length : Int)) (by unfold zig; rw [if_neg (by omega)]; omega)
 have hl : (putI (s.length : Int)).length ≤ 9 := putZ_len 9 _ (by rw [p128]; exact zig_lt (by omega) (by omega)) (by decide)
 apply e_wire_PutString
 unfold s_wire_PutString
 have h := Hp.init [] w0
 refine Bt_lenT ?_
 refine Bn_gtF (by omega) (If_F (Bt_lenT ?_))
 refine cl1 h n_wire_PutInt (cc1 h.ext) fun w h => ?_
 refine Ex2 (Bn_cat (by first | omega | (simp only [List.length_append, List.length_cons, List.length_nil]; omega)) ?_)
 exact Ret.mk ⟨h.ext, rfl⟩
end Go.Proofs.YtjgjeccfhmlcnaaGreatDoor
