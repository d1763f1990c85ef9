/-
  Contracts and plain lemmas. By an AI agent.
-/
import Derived.Test.YtjgjeccfhmlcnaaGreatDoorEngW
import Derived.Test.YtjgjeccfhmlcnaaGreatDoorTyp
import Derived.Test.YtjgjeccfhmlcnaaGreatDoorEsA
import Derived.Test.YtjgjeccfhmlcnaaGreatDoorPlain
set_option linter.unusedSimpArgs false
set_option linter.unusedVariables false
set_option linter.unusedSectionVars false
namespace Go.Proofs.YtjgjeccfhmlcnaaGreatDoor
open Go Go.Eng Go.Proofs Go.Num Go.RowKit
open Go.Smp (Gp sF sD Gok Le Inv num pass Stb kD kOk kAll okAll)
set_option maxRecDepth 100000
abbrev Iw (z : Int) : Prop := -9223372036854775808 ≤ z ∧ z ≤ 9223372036854775807
abbrev tI : TypeId := 3
abbrev tIs : TypeId := 24
abbrev tBls : TypeId := 71
abbrev fZ (z : Int) : List Value := [.int .i64 z]
abbrev fB (b : Bool) : List Value := [.bool b]
theorem take_snoc {α : Type} {l : List α} {j : Nat} {a : α} (h : l[j]? = some a) : l.take (j + 1) = l.take j ++ [a] := by
 rw [List.take_add_one, h]; rfl
section
variable {w : World} {c n : Int} (hc : Iw c) (hn : 0 < n)
include hc hn
def pickZ (c n : Int) : Int := if c < 0 then (-(c + 1)) % n else c % n
omit hc in
theorem pickZ_bd : 0 ≤ pickZ c n ∧ pickZ c n < n := by
 unfold pickZ
 split
 ·exact ⟨Int.emod_nonneg _ (by omega), Int.emod_lt_of_pos _ hn⟩
 ·exact ⟨Int.emod_nonneg _ (by omega), Int.emod_lt_of_pos _ hn⟩
theorem c_pickL (hn2 : n ≤ 1000000000000) : Calls Tryz.prog 10 #[.int .i64 c, .int .i64 n] w (Ret fun r w' => Ext w w' ∧ r = .int .i64 (pickZ c n)) := by
 apply e_law15_pick
 unfold s_law15_pick
 have h := Hp.init [] w
 by_cases h0 : c < 0
 ·have e : pickZ c n = (-(c + 1)) % n := by unfold pickZ; rw [if_pos h0]
  rw [e]
  refine Bn_ltT (by omega) (If_T (Bn_ad (by omega) (by omega) (Eng.Un_ng (by omega) (by omega) (Bn_rm (by omega) (by omega) ?_))))
  exact Ret.mk ⟨h.ext, rfl⟩
 ·have e : pickZ c n = c % n := by unfold pickZ; rw [if_neg h0]
  rw [e]
  refine Bn_ltF (by omega) (If_F (Bn_rm (by omega) (by omega) ?_))
  exact Ret.mk ⟨h.ext, rfl⟩
end
section
variable {w0 : World} {n lo hi : Int}
theorem c_isIn (h : lo ≤ n ∧ n ≤ hi) : Calls Tryz.prog 31 #[.int .i64 n, .int .i64 lo, .int .i64 hi] w0 (Ret fun r w' => Ext w0 w' ∧ r = .bool true) := by
 have h1 := h.1
 have h2 := h.2
 apply e_sample_isIn
 unfold s_sample_isIn
 have h := Hp.init [] w0
 refine Bn_leT (by omega) (Gd_T (Gd_T (Gd_T (Bn_leT (by omega) (Pick_T ?_)))))
 exact Ret.mk ⟨h.ext, rfl⟩
theorem c_areIn1 {g1 g2 : Nat} (b1 : Blk w0 g1 tI [.int .i64 lo]) (b2 : Blk w0 g2 tI [.int .i64 hi]) (h : lo ≤ n ∧ n ≤ hi) : Calls Tryz.prog 55 ((#[] : Array Value) ++ #[.int .i64 n] ++ #[pr g1 0, pr g2 0]) w0 (Ret fun r w' => Ext w0 w' ∧ r = .bool false) := by
 have cc1 : ∀ {W : World}, Ext w0 W → Calls Tryz.prog 31 #[.int .i64 n, .int .i64 lo, .int .i64 hi] W (Ret fun r w' => Ext W w' ∧ r = .bool true) := fun _ => c_isIn h
 rw [show ((#[] : Array Value) ++ #[.int .i64 n] ++ #[pr g1 0, pr g2 0]) = #[.int .i64 n, pr g1 0, pr g2 0] from rfl]
 apply e_sample_areIn_1
 unfold s_sample_areIn_1
 have h := Hp.init [] w0
 refine lg1 h ‹_› (by rfl) ?_
 refine lg1 h ‹_› (by rfl) ?_
 refine cl1 h n_sample_isIn (cc1 h.ext) fun w h => ?_
 refine Un_T ?_
 exact Ret.mk ⟨h.ext, rfl⟩
variable {v : Value} {l : List Int} (hv : SlC w0 1 v l.length (l.flatMap fZ)) (hl : l.length ≤ 9223372036854775807) (hin : ∀ x ∈ l, lo ≤ x ∧ x ≤ hi)
include hv hl hin
theorem c_IndexF {g1 g2 : Nat} (b1 : Blk w0 g1 tI [.int .i64 lo]) (b2 : Blk w0 g2 tI [.int .i64 hi]) : Calls Tryz.prog 84 #[v, .func (.func 55) #[] #[pr g1 0, pr g2 0]] w0 (Ret fun r w' => Ext w0 w' ∧ r = .int .i64 (-1)) := by
 apply e_slices_IndexFunc_int_int
 unfold s_slices_IndexFunc_int_int
 have h := Hp.init [] w0
 refine leS (hv.hp h) ?_
 refine Lp1.mk (fun i W => ∃ j : Nat, j ≤ l.length ∧ i = .int .i64 j ∧ Hp [] w0 W [])
  (fun i _ => match i with | .int _ i' => l.length - i'.toNat | _ => 0) ⟨0, by omega, rfl, h⟩ ?_
 clear h
 rintro _ W ⟨j, hj, rfl, h⟩
 by_cases hjl : j < l.length
 ·refine Exists.elim (p := fun x => l[j]? = some x) ⟨_, List.getElem?_eq_getElem hjl⟩ fun x hx => ?_
  have sx : Seg (l.flatMap fZ) (j * 1) (fZ x) := flat_seg (f := fZ) (fun _ => rfl) hx
  have hx1 := hin x (List.mem_of_getElem? hx)
  refine Bn_ltT (by omega) (If_T (iaH h ‹_› (by omega) fun zb zo zk zv zc => ?_))
  refine lh0 h ‹_› ‹_› (by rfl) ?_
  refine Cw_i n_sample_areIn_1 (c_areIn1 (b1.ext h.ext) (b2.ext h.ext) hx1) ?_
  rintro _ w2 ⟨x2, rfl⟩
  have h := h.x x2
  refine If_F (Bn_ad (by omega) (by omega) ?_)
  exact ⟨⟨j + 1, by omega, rfl, h⟩, by show l.length - ((j : Int) + 1).toNat < l.length - (j : Int).toNat; omega⟩
 refine Bn_ltF (by omega) (If_F ?_)
 exact Ret.mk ⟨h.ext, rfl⟩
theorem c_areIn : Calls Tryz.prog 30 #[v, .int .i64 lo, .int .i64 hi] w0 (Ret fun r w' => Ext w0 w' ∧ r = .bool true) := by
 have cc1 : ∀ {W : World} {g1 g2 : Nat}, Ext w0 W → Blk W g1 tI [.int .i64 lo] → Blk W g2 tI [.int .i64 hi] → Calls Tryz.prog 54 #[v, .func (.func 55) #[] #[pr g1 0, pr g2 0]] W (Ret fun r w' => Ext W w' ∧ r = .bool false) := fun {W g1 g2} e b1 b2 => by
  have cc2 : ∀ {W2 : World}, Ext W W2 → Calls Tryz.prog 84 #[v, .func (.func 55) #[] #[pr g1 0, pr g2 0]] W2 (Ret fun r w' => Ext W2 w' ∧ r = .int .i64 (-1)) := fun {W2} e2 => c_IndexF ((hv.ext e).ext e2) hl hin (b1.ext e2) (b2.ext e2)
  apply e_slices_ContainsFunc_int_int
  unfold s_slices_ContainsFunc_int_int
  have h := Hp.init [] W
  refine cl1 h n_slices_IndexFunc_int_int (cc2 h.ext) fun w h => ?_
  refine Bn_geF (by omega) ?_
  exact Ret.mk ⟨h.ext, rfl⟩
 apply e_sample_areIn
 unfold s_sample_areIn
 have h := Hp.init [] w0
 refine bxA h fun g1 w h => ?_
 refine bxA h fun g2 w h => ?_
 refine Cl_i n_slices_ContainsFunc_int_int (cc1 h.ext (h.get (i := 1) rfl) (h.get (i := 0) rfl)) ?_
 rintro _ w2 ⟨x2, rfl⟩
 have h := h.x x2
 refine Un_F ?_
 exact Ret.mk ⟨h.ext, rfl⟩
end
theorem least {p : Nat → Prop} : ∀ n, p n → ∃ m, p m ∧ m ≤ n ∧ ∀ k, p k → m ≤ k := by
 intro n
 induction n using Nat.strongRecOn with
 | ind n ih =>
  intro h
  by_cases hk : ∃ k, k < n ∧ p k
  ·obtain ⟨k, h1, h2⟩ := hk
   obtain ⟨m, a, b, c⟩ := ih k h1 h2
   exact ⟨m, a, by omega, c⟩
  ·exact ⟨n, h, Nat.le_refl _, fun k h1 => Nat.le_of_not_lt fun h2 => hk ⟨k, h2, h1⟩⟩
theorem Lp1.mkN {a0 : Value} {w : World} {B : Value → World → (Value → World → Prop) → Prop} (I : Nat → Value → World → Prop) {n0 : Nat} (h0 : I n0 a0 w)
 (h : ∀ (n : Nat) (a : Value) (w : World), I n a w → ∀ K : Value → World → Prop, (∀ m b w', I m b w' → m < n → K b w') → B a w K) : Lp1 a0 w B := by
 have hm : ∀ a w, ∃ m, ∀ n, I n a w → I m a w ∧ m ≤ n := fun a w => by
  by_cases he : ∃ n, I n a w
  ·obtain ⟨n, hn⟩ := he
   obtain ⟨m, h1, _, h3⟩ := least (p := fun n => I n a w) n hn
   exact ⟨m, fun k hk => ⟨h1, h3 k hk⟩⟩
  ·exact ⟨0, fun n hn => absurd ⟨n, hn⟩ he⟩
 refine Lp1.mkK (fun a w => ∃ n, I n a w) (fun a w => Classical.choose (hm a w)) ⟨_, h0⟩ fun a w ⟨n, hn⟩ K hK => ?_
 have h1 := Classical.choose_spec (hm a w) n hn
 exact h _ a w h1.1 K fun m b w' h2 h3 => hK b w' ⟨m, h2⟩ (by have := (Classical.choose_spec (hm b w') m h2).2; omega)
abbrev fS (g : Gp) : List Value := [.int .i64 g.1]
abbrev fH (g : Gp) : List Value := [.int .i64 g.2]
structure Rng (l : List Gp) : Prop where
 len : l.length ≤ 400
 sz : ∀ g ∈ l, 0 ≤ g.1 ∧ g.1 ≤ 1000000
 we : ∀ g ∈ l, 1 ≤ g.2 ∧ g.2 ≤ 1000
theorem Rng.ok {l : List Gp} (h : Rng l) : Gok l := fun g hg => ⟨(h.sz g hg).1, (h.we g hg).1⟩
theorem sF_snoc : ∀ {l : List Gp} {f : List Bool} {j : Nat} {g : Gp} {c : Bool}, l[j]? = some g → f[j]? = some c → sF (l.take (j + 1)) (f.take (j + 1)) = sF (l.take j) (f.take j) + (if c then g.1 else 0)
 | [], _, _, _, _, h, _ => by simp at h
 | _ :: _, [], _, _, _, _, h => by simp at h
 | x :: l, d :: f, 0, g, c, h1, h2 => by
  obtain rfl : x = g := by simpa using h1
  obtain rfl : d = c := by simpa using h2
  show (if d then x.1 else 0) + sF (l.take 0) (f.take 0) = sF [] [] + _
  simp [sF]
 | x :: l, d :: f, j + 1, g, c, h1, h2 => by
  have := sF_snoc (l := l) (f := f) (j := j) (g := g) (c := c) (by simpa using h1) (by simpa using h2)
  show (if d then x.1 else 0) + sF (l.take (j + 1)) (f.take (j + 1)) = (if d then x.1 else 0) + sF (l.take j) (f.take j) + _
  rw [this]; omega
theorem sD_snoc : ∀ {l : List Gp} {f : List Bool} {j : Nat} {g : Gp} {c : Bool}, l[j]? = some g → f[j]? = some c → sD (l.take (j + 1)) (f.take (j + 1)) = sD (l.take j) (f.take j) + (if c then 0 else g.1 * g.2)
 | [], _, _, _, _, h, _ => by simp at h
 | _ :: _, [], _, _, _, _, h => by simp at h
 | x :: l, d :: f, 0, g, c, h1, h2 => by
  obtain rfl : x = g := by simpa using h1
  obtain rfl : d = c := by simpa using h2
  show (if d then 0 else x.1 * x.2) + sD (l.take 0) (f.take 0) = sD [] [] + _
  simp [sD]
 | x :: l, d :: f, j + 1, g, c, h1, h2 => by
  have := sD_snoc (l := l) (f := f) (j := j) (g := g) (c := c) (by simpa using h1) (by simpa using h2)
  show (if d then 0 else x.1 * x.2) + sD (l.take (j + 1)) (f.take (j + 1)) = (if d then 0 else x.1 * x.2) + sD (l.take j) (f.take j) + _
  rw [this]; omega
theorem sF_bd {l : List Gp} {f : List Bool} (h : ∀ g ∈ l, 0 ≤ g.1 ∧ g.1 ≤ 1000000) : 0 ≤ sF l f ∧ sF l f ≤ 1000000 * l.length := by
 induction l generalizing f with
 | nil => simp [sF]
 | cons g l ih =>
  have hg := h g List.mem_cons_self
  cases f with
  | nil => simp only [sF]; omega
  | cons c f =>
   have := ih (f := f) fun x hx => h x (List.mem_cons_of_mem _ hx)
   rw [sF, List.length_cons]
   cases c <;> simp <;> omega
theorem mul_bd {a b : Int} {A B : Int} (ha : 0 ≤ a ∧ a ≤ A) (hb : 0 ≤ b ∧ b ≤ B) : 0 ≤ a * b ∧ a * b ≤ A * B :=
 ⟨Int.mul_nonneg ha.1 hb.1, Int.mul_le_mul ha.2 hb.2 hb.1 (by omega)⟩
theorem sD_bd {l : List Gp} {f : List Bool} (h : ∀ g ∈ l, 0 ≤ g.1 ∧ g.1 ≤ 1000000) (k : ∀ g ∈ l, 1 ≤ g.2 ∧ g.2 ≤ 1000) : 0 ≤ sD l f ∧ sD l f ≤ 1000000000 * l.length := by
 induction l generalizing f with
 | nil => simp [sD]
 | cons g l ih =>
  have hg := h g List.mem_cons_self
  have hk := k g List.mem_cons_self
  have hm := mul_bd hg (show 0 ≤ g.2 ∧ g.2 ≤ 1000 by omega)
  cases f with
  | nil => simp only [sD]; omega
  | cons c f =>
   have := ih (f := f) (fun x hx => h x (List.mem_cons_of_mem _ hx)) fun x hx => k x (List.mem_cons_of_mem _ hx)
   rw [sD, List.length_cons]
   cases c <;> simp <;> omega
theorem take_all {α : Type} {l : List α} {j : Nat} (h : l.length ≤ j) : l.take j = l := List.take_of_length_le h
section
variable {w0 : World} {v1 v2 : Value} {l : List Gp} {b : Int} (h1 : SlC w0 1 v1 l.length (l.flatMap fS)) (h2 : SlC w0 1 v2 l.length (l.flatMap fH)) (hr : Rng l) (hb : 0 ≤ b ∧ b ≤ 1000000000)
include h1 h2 hr hb
abbrev LL (l : List Gp) (b : Int) (v1 v2 v8 : Value) (g10 g9 g8 g5 g4 g3 : Nat) (x10 x9 : Int) (f : List Bool) : List Et :=
 [bx g10 tI [.int .i64 x10], bx g9 tI [.int .i64 x9], bx g8 tBls [v8], ro 4 1 v8 l.length (f.flatMap fB), bx g5 tIs [v2], bx g4 tIs [v1], bx g3 tI [.int .i64 b]]
theorem c_level {v8 : Value} {g10 g9 g8 g5 g4 g3 : Nat} {x10 x9 : Int} {f : List Bool} {W0 : World} (hf : f.length = l.length) (h : Hp [] w0 W0 (LL l b v1 v2 v8 g10 g9 g8 g5 g4 g3 x10 x9 f)) :
 Calls Tryz.prog 32 ((#[] : Array Value) ++ #[] ++ #[pr g3 0, pr g9 0, pr g10 0, pr g4 0, pr g8 0, pr g5 0]) W0 (Ret fun _ w' => Hp [] w0 w' (LL l b v1 v2 v8 g10 g9 g8 g5 g4 g3 (sD l f) (num b l f) f)) := by
 have hn := hr.len
 rw [show ((#[] : Array Value) ++ #[] ++ #[pr g3 0, pr g9 0, pr g10 0, pr g4 0, pr g8 0, pr g5 0]) = #[pr g3 0, pr g9 0, pr g10 0, pr g4 0, pr g8 0, pr g5 0] from rfl]
 apply e_sample_Allocate_1
 unfold s_sample_Allocate_1
 refine Eng.ld1 h 6 rfl rfl (st1 h 1 rfl rfl rfl rfl fun w h => ?_)
 refine st1 h 0 rfl rfl rfl rfl fun w h => ?_
 refine Eng.ld1 h 5 rfl rfl (leS (h1.hp h) ?_)
 dsimp only [List.set] at h
 refine Lp1.mk (fun i W => ∃ j : Nat, j ≤ l.length ∧ i = .int .i64 j ∧ Hp [] w0 W (LL l b v1 v2 v8 g10 g9 g8 g5 g4 g3 (sD (l.take j) (f.take j)) (num b (l.take j) (f.take j)) f))
  (fun i _ => match i with | .int _ i' => l.length - i'.toNat | _ => 0) ⟨0, by omega, rfl, ?_⟩ ?_
 ·have e1 : sD (l.take 0) (f.take 0) = 0 := rfl
  have e2 : num b (l.take 0) (f.take 0) = b := by show b - 0 = b; omega
  rw [e1, e2]; exact h
 clear h
 rintro _ W ⟨j, hj, rfl, h⟩
 by_cases hjl : j < l.length
 rotate_left
 ·rw [take_all (by omega), take_all (by omega)] at h
  refine Bn_ltF (by omega) (If_F ?_)
  exact Ret.mk h
 ·refine Exists.elim (p := fun x => l[j]? = some x) ⟨_, List.getElem?_eq_getElem hjl⟩ fun g hg => ?_
  refine Exists.elim (p := fun x => f[j]? = some x) ⟨_, List.getElem?_eq_getElem (by omega)⟩ fun c hc => ?_
  have s1 : Seg (l.flatMap fS) (j * 1) (fS g) := flat_seg (f := fS) (fun _ => rfl) hg
  have s2 : Seg (l.flatMap fH) (j * 1) (fH g) := flat_seg (f := fH) (fun _ => rfl) hg
  have s3 : Seg (f.flatMap fB) (j * 1) (fB c) := flat_seg (f := fB) (fun _ => rfl) hc
  have b1 := hr.sz g (List.mem_of_getElem? hg)
  have b2 := hr.we g (List.mem_of_getElem? hg)
  have m1 := mul_bd b1 (show 0 ≤ g.2 ∧ g.2 ≤ 1000 by omega)
  have tl : (l.take j).length ≤ 400 := by rw [List.length_take]; omega
  have f1 := sF_bd (l := l.take j) (f := f.take j) fun x hx => hr.sz x (List.mem_of_mem_take hx)
  have d1 := sD_bd (l := l.take j) (f := f.take j) (fun x hx => hr.sz x (List.mem_of_mem_take hx)) fun x hx => hr.we x (List.mem_of_mem_take hx)
  refine Exists.elim (p := fun x => num b (l.take j) (f.take j) = x) ⟨_, rfl⟩ fun x9' e9 => ?_
  refine Exists.elim (p := fun x => sD (l.take j) (f.take j) = x) ⟨_, rfl⟩ fun x10' e10 => ?_
  have n9 : num b (l.take j) (f.take j) = b - sF (l.take j) (f.take j) := rfl
  have sf := sF_snoc hg hc
  have sd := sD_snoc hg hc
  have n9' : num b (l.take (j + 1)) (f.take (j + 1)) = b - sF (l.take (j + 1)) (f.take (j + 1)) := rfl
  rw [e9, e10] at h
  rw [e10] at d1 sd
  cases c with
  | true =>
   have e1 : num b (l.take (j + 1)) (f.take (j + 1)) = x9' - g.1 := by rw [n9', sf, if_pos rfl]; omega
   have e2 : sD (l.take (j + 1)) (f.take (j + 1)) = x10' := by rw [sd, if_pos rfl]; omega
   refine Bn_ltT (by omega) (If_T (iaH h ‹_› (by omega) fun zb zo zk zv zc => ?_))
   refine lh0 h ‹_› ‹_› (by rfl) ?_
   refine Eng.ld1 h 2 rfl rfl (iaR h 3 rfl (by omega) fun zg zk zv => ?_)
   refine lr0 h 3 rfl ‹_› ‹_› (by rfl) ?_
   refine If_T (Eng.ld1 h 1 rfl rfl (Bn_su (by omega) (by omega) (st1 h 1 rfl rfl rfl rfl fun w h => ?_)))
   refine Bn_ad (by omega) (by omega) ?_
   dsimp only [List.set] at h
   exact ⟨⟨j + 1, by omega, rfl, by rw [e1, e2]; exact h⟩, by show l.length - ((j : Int) + 1).toNat < l.length - (j : Int).toNat; omega⟩
  | false =>
   have e1 : num b (l.take (j + 1)) (f.take (j + 1)) = x9' := by rw [n9', sf, if_neg (by decide)]; omega
   have e2 : sD (l.take (j + 1)) (f.take (j + 1)) = x10' + g.1 * g.2 := by rw [sd, if_neg (by decide)]
   refine Bn_ltT (by omega) (If_T (iaH h ‹_› (by omega) fun zb zo zk zv zc => ?_))
   refine lh0 h ‹_› ‹_› (by rfl) ?_
   refine Eng.ld1 h 2 rfl rfl (iaR h 3 rfl (by omega) fun zg zk zv => ?_)
   refine lr0 h 3 rfl ‹_› ‹_› (by rfl) ?_
   refine If_F ?_
   replace h := h.dr
   refine dl1 h 0 rfl rfl (dl1 h 4 rfl rfl (diH h ‹_› (by omega) fun zb zo zk zv zc => ?_))
   refine dh0 h ‹_› ‹_› (by rfl) ?_
   refine Dv_mu (by omega) (by omega) (Dv_ad (by omega) (by omega) (st1 h 0 rfl rfl rfl rfl fun w h => ?_))
   refine Bn_ad (by omega) (by omega) ?_
   dsimp only [List.set] at h
   exact ⟨⟨j + 1, by omega, rfl, by rw [e1, e2]; exact h⟩, by show l.length - ((j : Int) + 1).toNat < l.length - (j : Int).toNat; omega⟩
end
theorem mid_get {α : Type} {A B : List α} {j : Nat} (hl : A.length = B.length) (hj : j < B.length) : (A.take j ++ B.drop j)[j]? = B[j]? := by
 rw [List.getElem?_append_right (by rw [List.length_take]; omega), List.length_take, List.getElem?_drop]
 congr 1; omega
theorem mid_set {α : Type} {A B : List α} {j : Nat} {d : α} (hl : A.length = B.length) (h : A[j]? = some d) : (A.take j ++ B.drop j).set j d = A.take (j + 1) ++ B.drop (j + 1) := by
 have hj := (List.getElem?_eq_some_iff.1 h).1
 have e : (A.take j).length = j := by rw [List.length_take]; omega
 rw [List.set_append_right _ _ (by omega), e, Nat.sub_self, take_snoc h, List.append_assoc]
 congr 1
 have : B.drop j = B[j]'(by omega) :: B.drop (j + 1) := List.drop_eq_getElem_cons (by omega)
 rw [this]; rfl
theorem mid_same {α : Type} {A B : List α} {j : Nat} {d : α} (h : A[j]? = some d) (k : B[j]? = some d) : A.take (j + 1) ++ B.drop (j + 1) = A.take j ++ B.drop j := by
 have hj := (List.getElem?_eq_some_iff.1 k).1
 have : B.drop j = d :: B.drop (j + 1) := by rw [List.drop_eq_getElem_cons hj, (List.getElem?_eq_some_iff.1 k).2]
 rw [take_snoc h, this, List.append_assoc]; rfl
theorem mid_len {α : Type} {A B : List α} {j : Nat} (hl : A.length = B.length) : (A.take j ++ B.drop j).length = B.length := by
 rw [List.length_append, List.length_take, List.length_drop]; omega
theorem flat1 {α : Type} {f : α → Value} {l : List α} : l.flatMap (fun a => [f a]) = l.map f := List.map_eq_flatMap.symm
theorem set_fB {l : List Bool} {i : Nat} {z : Bool} : (l.flatMap fB).set (0 + i * 1) (.bool z) = (l.set i z).flatMap fB := by
 show (l.flatMap fun b => [Value.bool b]).set _ _ = (l.set i z).flatMap fun b => [Value.bool b]
 rw [flat1, flat1, Nat.zero_add, Nat.mul_one, List.map_set]
theorem set_fZ {l : List Int} {i : Nat} {z : Int} : (l.flatMap fZ).set (0 + i * 1) (.int .i64 z) = (l.set i z).flatMap fZ := by
 show (l.flatMap fun b => [Value.int .i64 b]).set _ _ = (l.set i z).flatMap fun b => [Value.int .i64 b]
 rw [flat1, flat1, Nat.zero_add, Nat.mul_one, List.map_set]
def cF : List Bool → Nat
 | [] => 0
 | c :: f => (if c then 0 else 1) + cF f
theorem cF_le : ∀ {f h : List Bool}, Le f h → cF h ≤ cF f ∧ (h ≠ f → cF h < cF f)
 | [], [], _ => ⟨Nat.le_refl _, fun h => absurd rfl h⟩
 | c :: f, d :: h, ⟨a, k⟩ => by
  have ih := cF_le k
  rw [cF, cF]
  cases c <;> cases d
  ·refine ⟨by simp only [Bool.false_eq_true, if_false]; omega, fun hn => ?_⟩
   have := ih.2 fun e => hn (by rw [e])
   simp only [Bool.false_eq_true, if_false]; omega
  ·refine ⟨by simp only [Bool.false_eq_true, if_false, if_true]; omega, fun hn => ?_⟩
   simp only [Bool.false_eq_true, if_false, if_true]; omega
  ·exact absurd (a rfl) (by decide)
  ·refine ⟨by simp only [if_true]; omega, fun hn => ?_⟩
   have := ih.2 fun e => hn (by rw [e])
   simp only [if_true]; omega
 | [], _ :: _, k => k.elim
 | _ :: _, [], k => k.elim
theorem take_bne {f h : List Bool} {j : Nat} {c d : Bool} (h1 : f[j]? = some c) (h2 : h[j]? = some d) : decide (h.take (j + 1) ≠ f.take (j + 1)) = (decide (h.take j ≠ f.take j) || decide (d ≠ c)) := by
 have l1 := (List.getElem?_eq_some_iff.1 h1).1
 have l2 := (List.getElem?_eq_some_iff.1 h2).1
 rw [take_snoc h1, take_snoc h2]
 by_cases e : h.take j = f.take j
 ·rw [e]
  by_cases e2 : d = c
  ·subst e2; simp
  ·rw [decide_eq_true e2, Bool.or_true]
   exact decide_eq_true fun e3 => e2 (by simpa using e3)
 ·rw [decide_eq_true e, Bool.true_or]
  exact decide_eq_true fun e3 => e (List.append_inj_left' e3 rfl)
def AlR (w0 : World) (b : Int) (l : List Gp) (r : Value) (w' : World) : Prop := ∃ f, Stb b l f ∧
 (okAll b l f = true ∧ (∃ v, r = .tuple #[v, .int .i64 0] ∧ Hp [] w0 w' [ro tI 1 v l.length ((kAll b l f).flatMap fZ)]) ∨
  okAll b l f = false ∧ r = .tuple #[.slice none 0 0, .int .i64 150] ∧ Ext w0 w')
section
variable {w0 : World} {v1 v2 : Value} {l : List Gp} {b : Int} (h1 : SlC w0 1 v1 l.length (l.flatMap fS)) (h2 : SlC w0 1 v2 l.length (l.flatMap fH)) (hr : Rng l) (hb : 0 ≤ b ∧ b ≤ 1000000000)
include h1 h2 hr hb
set_option maxHeartbeats 8000000 in
theorem c_Alloc : Calls Tryz.prog 11 #[.int .i64 b, v1, v2] w0 (Ret (AlR w0 b l)) := by
 have hn := hr.len
 have hb1 := hb.1
 have hb2 := hb.2
 have m1 : l.flatMap fS = (l.map (·.1)).flatMap fZ := by rw [List.flatMap_map]
 have m2 : l.flatMap fH = (l.map (·.2)).flatMap fZ := by rw [List.flatMap_map]
 have cc1 : ∀ {W : World}, Ext w0 W → Calls Tryz.prog 30 #[v1, .int .i64 0, .int .i64 1000000] W (Ret fun r w' => Ext W w' ∧ r = .bool true) := fun e => by
  have h := h1.ext e
  rw [m1] at h
  exact c_areIn (l := l.map (·.1)) (by rw [List.length_map]; exact h) (by rw [List.length_map]; omega) fun x hx => by
   obtain ⟨g, hg, rfl⟩ := List.mem_map.1 hx
   exact hr.sz g hg
 have cc2 : ∀ {W : World}, Ext w0 W → Calls Tryz.prog 30 #[v2, .int .i64 1, .int .i64 1000] W (Ret fun r w' => Ext W w' ∧ r = .bool true) := fun e => by
  have h := h2.ext e
  rw [m2] at h
  exact c_areIn (l := l.map (·.2)) (by rw [List.length_map]; exact h) (by rw [List.length_map]; omega) fun x hx => by
   obtain ⟨g, hg, rfl⟩ := List.mem_map.1 hx
   exact hr.we g hg
 have cc3 : ∀ {W : World}, Ext w0 W → Calls Tryz.prog 31 #[.int .i64 b, .int .i64 0, .int .i64 1000000000] W (Ret fun r w' => Ext W w' ∧ r = .bool true) := fun e => c_isIn ⟨hb1, hb2⟩
 apply e_sample_Allocate
 unfold s_sample_Allocate
 have h := Hp.init [] w0
 refine bxA h fun g1 w h => ?_
 refine bx1w h (h1.hp h) fun g2 w h => ?_
 refine bx1w h (h2.hp h) fun g3 w h => ?_
 refine Eng.ld1 h 1 rfl rfl (leS (h1.hp h) ?_)
 refine Bn_gtF (by omega) (Gd_F (Eng.ld1 h 0 rfl rfl (Gd_F (leS (h2.hp h) ?_))))
 refine Gd_F (Eng.ld1 h 1 rfl rfl (Gd_F (leS (h1.hp h) ?_)))
 refine Gd_F (Bn_neF (by omega) (Pick_F (Gd_F (Eng.ld1 h 1 rfl rfl (Gd_F (cl1 h n_sample_areIn (cc1 h.ext) fun w h => ?_))))))
 refine Gd_F (Un_T (Pick_F (Gd_F (Eng.ld1 h 0 rfl rfl (Gd_F (cl1 h n_sample_areIn (cc2 h.ext) fun w h => ?_))))))
 refine Gd_F (Un_T (Pick_F (Gd_F (Eng.ld1 h 2 rfl rfl (Gd_F (cl1 h n_sample_isIn (cc3 h.ext) fun w h => ?_))))))
 refine Gd_F (Un_T (Pick_F (If_F (Eng.ld1 h 1 rfl rfl (leS (h1.hp h) ?_)))))
 refine msS (n := l.length) fB false rfl (by decide) h (by omega) (by show l.length * 1 ≤ _; omega) fun v8 w hg8 h => ?_
 refine alS h fun g4 w h => ?_
 refine st1w h 0 rfl (qZ 1 h rfl) rfl fun w h => ?_
 refine Eng.ld1 h 4 rfl rfl (alS h fun g5 w h => ?_)
 refine alS h fun g6 w h => ?_
 refine st1 h 1 rfl rfl rfl rfl fun w h => ?_
 refine st1 h 0 rfl rfl rfl rfl fun w h => ?_
 dsimp only [List.set] at h
 have h : Hp [] w0 w (LL l b v1 v2 v8 g6 g5 g4 g3 g2 g1 0 b (List.replicate l.length false)) := h
 refine Lp1.mkN (fun n a W => ∃ (f : List Bool) (c : Bool) (x9 x10 : Int), a = .bool c ∧ Inv b l f ∧ n = cF f + (if c then 1 else 0) ∧ (c = false → x9 = num b l f ∧ x10 = sD l f ∧ pass b l f = f) ∧ Hp [] w0 W (LL l b v1 v2 v8 g6 g5 g4 g3 g2 g1 x10 x9 f))
  ⟨_, true, _, _, rfl, Go.Smp.inv0 hb1, rfl, fun e => absurd e (by decide), h⟩ ?_
 clear h
 rintro n _ W ⟨f, c, x9, x10, rfl, hI, rfl, hc, h⟩ K hK
 have hfl := hI.len
 have dd := sD_bd (f := f) hr.sz hr.we
 have ff := sF_bd (f := f) hr.sz
 have nn := hI.n0
 have ne : num b l f = b - sF l f := rfl
 cases c with
 | true =>
  clear hc
  refine If_T (Cw_i n_sample_Allocate_1 (c_level h1 h2 hr hb hfl h) ?_)
  clear h
  intro _ W h
  refine Exists.elim (p := fun x => num b l f = x) ⟨_, rfl⟩ fun y9 e9 => ?_
  refine Exists.elim (p := fun x => sD l f = x) ⟨_, rfl⟩ fun y10 e10 => ?_
  rw [e9, e10] at h
  rw [e9] at nn ne
  rw [e10] at dd
  refine Eng.ld1 h 4 rfl rfl (leS (h2.hp h) ?_)
  have hle := Go.Smp.pass_le (b := b) hfl
  have hpl := hle.len
  refine Lp2.mkK (fun a i W => ∃ j : Nat, j ≤ l.length ∧ i = .int .i64 j ∧ a = .bool (decide ((pass b l f).take j ≠ f.take j)) ∧ Hp [] w0 W (LL l b v1 v2 v8 g6 g5 g4 g3 g2 g1 y10 y9 ((pass b l f).take j ++ f.drop j)))
   (fun _ i _ => match i with | .int _ i' => l.length - i'.toNat | _ => 0) ⟨0, by omega, rfl, by simp, by simpa using h⟩ ?_
  clear h
  rintro _ _ W ⟨j, hj, rfl, rfl, h⟩ K2 hK2
  by_cases hjl : j < l.length
  rotate_left
  ·rw [take_all (l := pass b l f) (by omega), List.drop_of_length_le (by omega), List.append_nil] at h
   rw [take_all (l := pass b l f) (by omega), take_all (l := f) (by omega)]
   refine Bn_ltF (by omega) (If_F ?_)
   have c1 := cF_le hle
   refine hK _ _ _ ⟨pass b l f, _, _, _, rfl, hI.pass hr.ok, rfl, fun e => ?_, h⟩ ?_
   ·have e : pass b l f = f := by simpa using e
    rw [e, e9, e10]; exact ⟨rfl, rfl, e⟩
   ·by_cases e : pass b l f = f
    ·rw [if_neg (by simpa using e), e]; simp
    ·rw [if_pos (by simpa using e)]; have := c1.2 e; simp; omega
  ·refine Exists.elim (p := fun x => l[j]? = some x) ⟨_, List.getElem?_eq_getElem hjl⟩ fun g hg => ?_
   refine Exists.elim (p := fun x => f[j]? = some x) ⟨_, List.getElem?_eq_getElem (by omega)⟩ fun c hc => ?_
   have s2 : Seg (l.flatMap fH) (j * 1) (fH g) := flat_seg (f := fH) (fun _ => rfl) hg
   have hm := mid_get (A := pass b l f) (B := f) (by omega) (show j < f.length by omega)
   rw [hc] at hm
   have s3 : Seg (((pass b l f).take j ++ f.drop j).flatMap fB) (j * 1) (fB c) := flat_seg (f := fB) (fun _ => rfl) hm
   have b2 := hr.we g (List.mem_of_getElem? hg)
   have m1 := mul_bd (show 0 ≤ y9 ∧ y9 ≤ 1000000000 by omega) (show 0 ≤ g.2 ∧ g.2 ≤ 1000 by omega)
   have hp := Go.Smp.pass_get (b := b) hg hc
   rw [e9, e10] at hp
   have tb := take_bne hc hp
   have ms := mid_set (A := pass b l f) (B := f) (by omega) hp
   have mlen := mid_len (A := pass b l f) (B := f) (j := j) (by omega)
   have done : ∀ {W : World} {a : Value}, a = .bool (decide ((pass b l f).take (j + 1) ≠ f.take (j + 1))) → Hp [] w0 W (LL l b v1 v2 v8 g6 g5 g4 g3 g2 g1 y10 y9 ((pass b l f).take (j + 1) ++ f.drop (j + 1))) → K2 a (.int .i64 ((j : Int) + 1)) W := fun ha h => hK2 _ _ _ ⟨j + 1, by omega, rfl, ha, h⟩ (by show l.length - ((j : Int) + 1).toNat < l.length - (j : Int).toNat; omega)
   cases c with
   | true =>
    have e1 := mid_same (A := pass b l f) (B := f) hp hc
    have e2 : decide ((pass b l f).take (j + 1) ≠ f.take (j + 1)) = decide ((pass b l f).take j ≠ f.take j) := by rw [tb]; simp
    rw [e1, e2] at done
    refine Bn_ltT (by omega) (If_T (iaH h ‹_› (by omega) fun zb zo zk zv zc => ?_))
    refine lh0 h ‹_› ‹_› (by rfl) ?_
    refine Eng.ld1 h 2 rfl rfl (iaR h 3 rfl (by omega) fun zg zk zv => ?_)
    refine lr0 h 3 rfl ‹_› ‹_› (by rfl) ?_
    refine Un_T (Gd_FT (Gd_FT (Gd_FT (Gd_FT (Gd_FT (Pick_F (If_F (Bn_ad (by omega) (by omega) ?_))))))))
    exact done rfl h
   | false =>
    by_cases hw : y10 ≤ y9 * g.2
    ·have e2 : decide ((pass b l f).take (j + 1) ≠ f.take (j + 1)) = true := by rw [tb, decide_eq_true hw]; simp
     rw [decide_eq_true hw, Bool.or_true] at ms
     rw [e2, ← ms] at done
     refine Bn_ltT (by omega) (If_T (iaH h ‹_› (by omega) fun zb zo zk zv zc => ?_))
     refine lh0 h ‹_› ‹_› (by rfl) ?_
     refine Eng.ld1 h 2 rfl rfl (iaR h 3 rfl (by omega) fun zg zk zv => ?_)
     refine lr0 h 3 rfl ‹_› ‹_› (by rfl) ?_
     refine Un_F (Gd_T (Eng.ld1 h 1 rfl rfl (Gd_T (Gd_T (Bn_mu (by omega) (by omega) (Gd_T (Eng.ld1 h 0 rfl rfl (Gd_T (Bn_geT (by omega) (Pick_T (If_T (Eng.ld1 h 2 rfl rfl (iaR h 3 rfl (by omega) fun zg zk zv => ?_)))))))))))))
     refine stR1 h 3 rfl ‹_› (by rfl) (by rfl) (by omega) fun w h => ?_
     refine Bn_ad (by omega) (by omega) ?_
     dsimp only [List.set] at h
     rw [set_fB] at h
     exact done rfl h
    ·rw [decide_eq_false hw] at hp
     have e1 := mid_same (A := pass b l f) (B := f) hp hc
     have e2 : decide ((pass b l f).take (j + 1) ≠ f.take (j + 1)) = decide ((pass b l f).take j ≠ f.take j) := by rw [tb, decide_eq_false hw]; simp
     rw [e1, e2] at done
     refine Bn_ltT (by omega) (If_T (iaH h ‹_› (by omega) fun zb zo zk zv zc => ?_))
     refine lh0 h ‹_› ‹_› (by rfl) ?_
     refine Eng.ld1 h 2 rfl rfl (iaR h 3 rfl (by omega) fun zg zk zv => ?_)
     refine lr0 h 3 rfl ‹_› ‹_› (by rfl) ?_
     refine Un_F (Gd_T (Eng.ld1 h 1 rfl rfl (Gd_T (Gd_T (Bn_mu (by omega) (by omega) (Gd_T (Eng.ld1 h 0 rfl rfl (Gd_T (Bn_geF (by omega) (Pick_T (If_F (Bn_ad (by omega) (by omega) ?_))))))))))))
     exact done rfl h
 | false =>
  obtain ⟨rfl, rfl, e3⟩ := hc rfl
  have hS := Go.Smp.stb_of hI e3
  clear hc
  refine If_F (Eng.ld1 h 5 rfl rfl (leS (h1.hp h) ?_))
  refine msS (n := l.length) fZ 0 rfl (by decide) h (by omega) (by show l.length * 1 ≤ _; omega) fun vk w hgk h => ?_
  refine Eng.ld1 h 5 rfl rfl (leS (h2.hp h) ?_)
  have hkl := Go.Smp.kAll_len (b := b) hfl
  refine Exists.elim (p := fun x => num b l f = x) ⟨_, rfl⟩ fun y9 e9 => ?_
  refine Exists.elim (p := fun x => sD l f = x) ⟨_, rfl⟩ fun y10 e10 => ?_
  refine Exists.elim (p := fun x => kAll b l f = x) ⟨_, rfl⟩ fun ks ek => ?_
  rw [e9, e10] at h
  rw [e9] at nn ne
  rw [e10] at dd
  rw [ek] at hkl
  have hrl : (List.replicate l.length (0 : Int)).length = l.length := List.length_replicate
  refine Exists.elim (p := fun x => List.replicate l.length (0 : Int) = x) ⟨_, rfl⟩ fun zs ez => ?_
  have h : Hp [] w0 w (ro tI 1 vk l.length (zs.flatMap fZ) :: LL l b v1 v2 v8 g6 g5 g4 g3 g2 g1 y10 y9 f) := by rw [← ez]; exact h
  rw [ez] at hrl
  refine Lp1.mkK (fun i W => ∃ j : Nat, j ≤ l.length ∧ i = .int .i64 j ∧ ((List.zipWith (kOk b l f) l f).take j).all id = true ∧ Hp [] w0 W (ro tI 1 vk l.length ((ks.take j ++ zs.drop j).flatMap fZ) :: LL l b v1 v2 v8 g6 g5 g4 g3 g2 g1 y10 y9 f))
   (fun i _ => match i with | .int _ i' => l.length - i'.toNat | _ => 0) ⟨0, by omega, rfl, rfl, by simpa using h⟩ ?_
  clear h
  rintro _ W ⟨j, hj, rfl, hall, h⟩ K2 hK2
  have hzl : (List.zipWith (kOk b l f) l f).length = l.length := by rw [List.length_zipWith]; omega
  by_cases hjl : j < l.length
  rotate_left
  ·rw [take_all (by omega)] at hall
   rw [take_all (l := ks) (by omega), List.drop_of_length_le (by omega), List.append_nil, ← ek] at h
   refine Bn_ltF (by omega) (If_F ?_)
   exact Ret.mk ⟨f, hS, .inl ⟨hall, vk, rfl, h.sub (by simp)⟩⟩
  ·refine Exists.elim (p := fun x => l[j]? = some x) ⟨_, List.getElem?_eq_getElem hjl⟩ fun g hg => ?_
   refine Exists.elim (p := fun x => f[j]? = some x) ⟨_, List.getElem?_eq_getElem (by omega)⟩ fun c hc => ?_
   have s2 : Seg (l.flatMap fH) (j * 1) (fH g) := flat_seg (f := fH) (fun _ => rfl) hg
   have s3 : Seg (f.flatMap fB) (j * 1) (fB c) := flat_seg (f := fB) (fun _ => rfl) hc
   have b2 := hr.we g (List.mem_of_getElem? hg)
   have m1 := mul_bd (show 0 ≤ y9 ∧ y9 ≤ 1000000000 by omega) (show 0 ≤ g.2 ∧ g.2 ≤ 1000 by omega)
   have m2 : 1000 * y9 * g.2 = 1000 * (y9 * g.2) := Int.mul_assoc _ _ _
   have hk : ks[j]? = some (kD b l f g c) := by rw [← ek]; exact Go.Smp.kAll_get hg hc
   have ms := mid_set (A := ks) (B := zs) (by omega) hk
   have mlen := mid_len (A := ks) (B := zs) (j := j) (by omega)
   have hz : (List.zipWith (kOk b l f) l f)[j]? = some (kOk b l f g c) := by rw [List.getElem?_zipWith, hg, hc]
   have done : ∀ {W : World}, kOk b l f g c = true → Hp [] w0 W (ro tI 1 vk l.length (((ks.take j ++ zs.drop j).set j (kD b l f g c)).flatMap fZ) :: LL l b v1 v2 v8 g6 g5 g4 g3 g2 g1 y10 y9 f) → K2 (.int .i64 ((j : Int) + 1)) W := fun ho h => hK2 _ _ ⟨j + 1, by omega, rfl, by rw [take_snoc hz, List.all_append, hall, ho]; rfl, by rw [ms] at h; exact h⟩ (by show l.length - ((j : Int) + 1).toNat < l.length - (j : Int).toNat; omega)
   have bad : ∀ {W : World}, kOk b l f g c = false → Ext w0 W → AlR w0 b l (.tuple #[.slice none 0 0, .int .i64 150]) W := fun ho x => by
    have eo : okAll b l f = false := by
     cases e : okAll b l f with
     | false => rfl
     | true =>
      have := Go.Smp.all_zip e hg hc
      rw [ho] at this; cases this
    exact ⟨f, hS, .inr ⟨eo, rfl, x⟩⟩
   cases c with
   | true =>
    have e1 : kD b l f g true = 1 := rfl
    rw [e1] at done
    refine Bn_ltT (by omega) (If_T (iaH h ‹_› (by omega) fun zb zo zk zv zc => ?_))
    refine lh0 h ‹_› ‹_› (by rfl) ?_
    refine Eng.ld1 h 3 rfl rfl (iaR h 4 rfl (by omega) fun zg zk zv => ?_)
    refine lr0 h 4 rfl ‹_› ‹_› (by rfl) ?_
    refine If_T (iaR h 0 rfl (by omega) fun zg zk zv => ?_)
    refine stR1 h 0 rfl ‹_› (by rfl) (by rfl) (by omega) fun w h => ?_
    refine Bn_ad (by omega) (by omega) ?_
    dsimp only [List.set] at h
    rw [set_fZ] at h
    exact done rfl h
   | false =>
    have e1 : kD b l f g false = (y10 + y9 * g.2 - 1) / (y9 * g.2) := by unfold kD; rw [if_neg (by decide), e9, e10]
    have e2 : kOk b l f g false = decide (0 < y9 ∧ y10 ≤ 1000 * y9 * g.2) := by unfold kOk; rw [Bool.false_or, e9, e10]
    rw [e1, e2] at done
    rw [e2] at bad
    by_cases hy : y9 ≤ 0
    ·refine Bn_ltT (by omega) (If_T (iaH h ‹_› (by omega) fun zb zo zk zv zc => ?_))
     refine lh0 h ‹_› ‹_› (by rfl) ?_
     refine Eng.ld1 h 3 rfl rfl (iaR h 4 rfl (by omega) fun zg zk zv => ?_)
     refine lr0 h 4 rfl ‹_› ‹_› (by rfl) ?_
     refine If_F (Eng.ld1 h 2 rfl rfl (Bn_leT (by omega) (Gd_TF (Gd_TF (Gd_TF (Gd_TF (Gd_TF (Gd_TF (Pick_T (If_T ?_))))))))))
     exact Ret.mk (bad (decide_eq_false (by omega)) h.ext)
    ·by_cases hy2 : 1000 * y9 * g.2 < y10
     ·refine Bn_ltT (by omega) (If_T (iaH h ‹_› (by omega) fun zb zo zk zv zc => ?_))
      refine lh0 h ‹_› ‹_› (by rfl) ?_
      refine Eng.ld1 h 3 rfl rfl (iaR h 4 rfl (by omega) fun zg zk zv => ?_)
      refine lr0 h 4 rfl ‹_› ‹_› (by rfl) ?_
      refine If_F (Eng.ld1 h 2 rfl rfl (Bn_leF (by omega) (Gd_F (Eng.ld1 h 1 rfl rfl (Gd_F (Eng.ld1 h 2 rfl rfl (Gd_F (Bn_mu (by omega) (by omega) (Gd_F (Gd_F (Bn_mu (by omega) (by omega) (Gd_F (Bn_gtT (by omega) (Pick_F (If_T ?_)))))))))))))))
      exact Ret.mk (bad (decide_eq_false (by omega)) h.ext)
     ·have hpos : 0 < y9 * g.2 := Int.mul_pos (by omega) (by omega)
      refine Bn_ltT (by omega) (If_T (iaH h ‹_› (by omega) fun zb zo zk zv zc => ?_))
      refine lh0 h ‹_› ‹_› (by rfl) ?_
      refine Eng.ld1 h 3 rfl rfl (iaR h 4 rfl (by omega) fun zg zk zv => ?_)
      refine lr0 h 4 rfl ‹_› ‹_› (by rfl) ?_
      refine If_F (Eng.ld1 h 2 rfl rfl (Bn_leF (by omega) (Gd_F (Eng.ld1 h 1 rfl rfl (Gd_F (Eng.ld1 h 2 rfl rfl (Gd_F (Bn_mu (by omega) (by omega) (Gd_F (Gd_F (Bn_mu (by omega) (by omega) (Gd_F (Bn_gtF (by omega) (Pick_F (If_F (Eng.ld1 h 1 rfl rfl (Eng.ld1 h 2 rfl rfl (Bn_mu (by omega) (by omega) (Bn_ad (by omega) (by omega) (Bn_su (by omega) (by omega) (Eng.ld1 h 2 rfl rfl (Bn_mu (by omega) (by omega) (Bn_qu (by omega) (by omega) (by omega) (iaR h 0 rfl (by omega) fun zg zk zv => ?_))))))))))))))))))))))))
      refine stR1 h 0 rfl ‹_› (by rfl) (by rfl) (by omega) fun w h => ?_
      refine Bn_ad (by omega) (by omega) ?_
      dsimp only [List.set] at h
      rw [set_fZ] at h
      exact done (decide_eq_true (by omega)) h
end
end Go.Proofs.YtjgjeccfhmlcnaaGreatDoor
namespace Go.Proofs.YtjgjeccfhmlcnaaGreatDoor
open Go Go.Eng Go.Proofs Go.Num Go.RowKit
open Go.Smp (Gp sF sD Gok Le Inv num pass Stb kD kOk kAll okAll sumN')
set_option maxRecDepth 100000
theorem take_neZ {α : Type} {xs ys : List α} {j : Nat} {x y : α} (hx : xs[j]? = some x) (hy : ys[j]? = some y) (h : x ≠ y) : xs ≠ ys := fun e => by
 subst e
 rw [hx] at hy
 exact h (Option.some.inj hy)
section
variable {w0 : World} {v u : Value} {xs ys : List Int} (hv : SlC w0 1 v xs.length (xs.flatMap fZ)) (hu : SlC w0 1 u ys.length (ys.flatMap fZ)) (hx : xs.length ≤ 1000000) (hy : ys.length ≤ 1000000)
include hv hu hx hy
theorem c_Ints : Calls Tryz.prog 12 #[v, u] w0 (Ret fun r w' => Ext w0 w' ∧ r = .bool (decide (xs = ys))) := by
 by_cases hl : xs.length = ys.length
 rotate_left
 ·rw [decide_eq_false fun e => hl (by rw [e])]
  apply e_ref15_Ints
  unfold s_ref15_Ints
  have h := Hp.init [] w0
  refine leS (hv.hp h) ?_
  refine leS (hu.hp h) ?_
  refine Bn_neT (by omega) (If_T ?_)
  exact Ret.mk ⟨h.ext, rfl⟩
 obtain ⟨b, hb⟩ : ∃ b, decide (xs = ys) = b := ⟨_, rfl⟩
 rw [hb]
 apply e_ref15_Ints
 unfold s_ref15_Ints
 have h := Hp.init [] w0
 refine leS (hv.hp h) ?_
 refine leS (hu.hp h) ?_
 refine Bn_neF (by omega) (If_F (Lp1.mk (fun i W => ∃ j : Nat, j ≤ xs.length ∧ i = .int .i64 j ∧ xs.take j = ys.take j ∧ Hp [] w0 W []) (fun i _ => match i with | .int _ i' => xs.length - i'.toNat | _ => 0) ⟨0, by omega, rfl, rfl, h⟩ ?_))
 clear h
 rintro _ W ⟨j, hj, rfl, ht, h⟩
 by_cases hjl : j < xs.length
 ·refine Exists.elim (p := fun x => xs[j]? = some x) ⟨_, List.getElem?_eq_getElem hjl⟩ fun x hxj => ?_
  refine Exists.elim (p := fun y => ys[j]? = some y) ⟨_, List.getElem?_eq_getElem (by omega)⟩ fun y hyj => ?_
  have sx : Seg (xs.flatMap fZ) (j * 1) (fZ x) := flat_seg (f := fZ) (fun _ => rfl) hxj
  have sy : Seg (ys.flatMap fZ) (j * 1) (fZ y) := flat_seg (f := fZ) (fun _ => rfl) hyj
  by_cases hxy : x = y
  ·subst hxy
   refine leS (hv.hp h) ?_
   refine Bn_ltT (by omega) (If_T ?_)
   replace h := h.dr
   refine diH h ‹_› (by omega) fun zb zo zk zv zc => ?_
   refine dh0 h ‹_› ‹_› (by rfl) ?_
   refine diH h ‹_› (by omega) fun zb zo zk zv zc => ?_
   refine dh0 h ‹_› ‹_› (by rfl) ?_
   refine Dv_neF (by omega) (If_F (Bn_ad (by omega) (by omega) ?_))
   exact ⟨⟨j + 1, by omega, rfl, by rw [take_snoc hxj, take_snoc hyj, ht], h⟩, by show xs.length - ((j : Int) + 1).toNat < xs.length - (j : Int).toNat; omega⟩
  ·have e2 : b = false := by rw [← hb]; exact decide_eq_false (take_neZ hxj hyj hxy)
   subst e2
   refine leS (hv.hp h) ?_
   refine Bn_ltT (by omega) (If_T ?_)
   replace h := h.dr
   refine diH h ‹_› (by omega) fun zb zo zk zv zc => ?_
   refine dh0 h ‹_› ‹_› (by rfl) ?_
   refine diH h ‹_› (by omega) fun zb zo zk zv zc => ?_
   refine dh0 h ‹_› ‹_› (by rfl) ?_
   refine Dv_neT (by omega) (If_T ?_)
   exact Ret.mk ⟨h.ext, rfl⟩
 rw [List.take_of_length_le (by omega), List.take_of_length_le (by omega)] at ht
 have e2 : b = true := by rw [← hb]; exact decide_eq_true ht
 subst e2
 refine leS (hv.hp h) ?_
 refine Bn_ltF (by omega) (If_F ?_)
 exact Ret.mk ⟨h.ext, rfl⟩
end
abbrev I2 := Int × Int
abbrev fT (a : I2) : List Value := [.int .i64 a.1, .int .i64 a.2]
def I2ok (l : List I2) : Prop := ∀ a ∈ l, Iw a.1 ∧ Iw a.2
section
variable {w0 : World} {v : Value} {l : List I2} {c : Int} (hv : SlC w0 2 v l.length (l.flatMap fT)) (hok : I2ok l) (hl : l.length ≤ 9223372036854775807) (hc : Iw c)
include hv hok hl hc
end
end Go.Proofs.YtjgjeccfhmlcnaaGreatDoor
namespace Go.Proofs.YtjgjeccfhmlcnaaGreatDoor
open Go Go.Eng Go.Proofs Go.Num Go.RowKit
open Go.Smp (Gp sF sD Gok Le Inv num pass Stb kD kOk kAll okAll sumN' mQ)
set_option maxRecDepth 100000
abbrev RsM := List UInt8 × List UInt8
abbrev tq (x : Rat) : RsM := (Lib.itoa x.num, Lib.itoa (x.den : Int))
abbrev vR (p : RsM) : Value := .agg #[str p.1, str p.2]
theorem ofQ {n d : Int} (hd : d ≠ 0) : rv (makeQ n d) = .tuple #[ov (some ((n : Rat) / d)), .int .i64 0] := by
 unfold makeQ; rw [if_neg hd]; rfl
section
variable {w : World} {x y : Rat}
theorem k_of {n d : Int} (hT : Tab w) (hn : Iw n) (hd : Iw d) (h0 : d ≠ 0) : Calls Tryz.prog 21 #[.int .i64 n, .int .i64 d] w (Ret fun r w' => Ext w w' ∧ r = .tuple #[vR (tq ((n : Rat) / d)), .int .i64 0]) := by
 have := c_Of (w := w) (x := n) (y := d) hT hn.1 hn.2 hd.1 hd.2
 rw [ofQ h0] at this
 exact this
end
end Go.Proofs.YtjgjeccfhmlcnaaGreatDoor
