/-
  Contracts and plain lemmas. By an AI agent.
-/
import Derived.Test.YtdbcpkihokagkaaGreatDoorUnA
import Derived.Lib.SplitLaws
import Derived.Test.YtdbcpkihokagkaaGreatDoorPlain
set_option linter.unusedSimpArgs false
set_option linter.unusedVariables false
set_option linter.unusedSectionVars false
namespace Go.Proofs.YtdbcpkihokagkaaGreatDoor
open Go Go.Eng Go.Proofs Go.Num Go.RowKit
set_option maxRecDepth 100000
def cutC (c : UInt8) : List UInt8 → List UInt8 × List UInt8 × Bool
 | [] => ([], [], false)
 | b :: l => if b = c then ([], l, true) else (b :: (cutC c l).1, (cutC c l).2.1, (cutC c l).2.2)
theorem idxC (c : UInt8) (l : List UInt8) : (0 ≤ Lib.index l [c] → cutC c l = (l.take (Lib.index l [c]).toNat, l.drop ((Lib.index l [c]).toNat + 1), true)) ∧ (Lib.index l [c] < 0 → cutC c l = (l, [], false)) := by
 induction l with
 | nil => exact ⟨fun h => by simp [Lib.index] at h, fun _ => rfl⟩
 | cons b l ih =>
  have hge := Lib.index_ge l [c]
  unfold Lib.index cutC
  by_cases hb : b = c
  ·subst hb
   simp
  ·have hp : ([c] : List UInt8).isPrefixOf (b :: l) = false := by
    simp [List.isPrefixOf]
    exact fun h => hb h.symm
   rw [if_neg (by rw [hp]; simp), if_neg hb]
   by_cases hi : Lib.index l [c] = -1
   ·rw [if_pos (by simp [hi])]
    refine ⟨fun h => absurd h (by omega), fun _ => ?_⟩
    rw [ih.2 (by omega)]
   ·rw [if_neg (by simpa using hi)]
    refine ⟨fun h => ?_, fun h => absurd h (by omega)⟩
    rw [ih.1 (by omega)]
    have e : (Lib.index l [c] + 1).toNat = (Lib.index l [c]).toNat + 1 := by omega
    rw [e]
    simp
theorem cut_C (c : UInt8) (l : List UInt8) : Lib.cut l [c] = cutC c l := by
 unfold Lib.cut
 split
 ·next h => rw [(idxC c l).1 h]; rfl
 ·next h => rw [(idxC c l).2 (by omega)]
def spC (c : UInt8) : List UInt8 → List (List UInt8)
 | [] => [[]]
 | b :: l => if b = c then [] :: spC c l else match spC c l with
  | [] => [[b]]
  | h :: t => (b :: h) :: t
theorem split_C (c : UInt8) (s : List UInt8) : Lib.split s [c] = spC c s := by
 unfold Lib.split
 rw [Lib.count_one]
 induction s with
 | nil => rfl
 | cons b l ih =>
  have hge := Lib.index_ge l [c]
  by_cases hb : b = c
  ·subst hb
   rw [List.count_cons_self]
   have hix : Lib.index (b :: l) [b] = 0 := by rw [Lib.index]; simp [List.isPrefixOf]
   unfold Lib.splitK spC
   rw [hix, if_neg (by decide), if_pos rfl]
   simp only [Int.toNat_zero, Nat.add_zero, List.take_zero, Nat.zero_add, List.length_cons, List.length_nil, List.drop_succ_cons, List.drop_zero]
   rw [ih]
  ·rw [List.count_cons_of_ne (by simpa using hb)]
   have hp : ([c] : List UInt8).isPrefixOf (b :: l) = false := by
    simp [List.isPrefixOf]
    exact fun h => hb h.symm
   have hix : Lib.index (b :: l) [c] = if Lib.index l [c] == -1 then -1 else Lib.index l [c] + 1 := by rw [Lib.index, hp]; simp
   unfold spC
   rw [if_neg hb, ← ih]
   rcases hk : l.count c with _ | k
   ·rfl
   ·unfold Lib.splitK
    by_cases hi : Lib.index l [c] = -1
    ·have hx : Lib.index (b :: l) [c] = -1 := by rw [hix, if_pos (by simp [hi])]
     rw [if_pos (by rw [hx]; rfl), if_pos (by rw [hi]; rfl)]
    ·have hx : Lib.index (b :: l) [c] = Lib.index l [c] + 1 := by rw [hix, if_neg (by simpa using hi)]
     have e : (Lib.index l [c] + 1).toNat = (Lib.index l [c]).toNat + 1 := by omega
     rw [if_neg (by rw [hx]; simp; omega), if_neg (by simpa using hi), hx, e]
     simp
theorem spC_ne (c : UInt8) (s : List UInt8) : spC c s ≠ [] := by
 cases s with
 | nil => simp [spC]
 | cons b l =>
  unfold spC
  split
  ·simp
  ·split <;> simp
theorem spC_none {c : UInt8} {a : List UInt8} (h : ∀ b ∈ a, b ≠ c) : spC c a = [a] := by
 induction a with
 | nil => rfl
 | cons b l ih =>
  unfold spC
  rw [if_neg (h b (by simp)), ih (fun x hx => h x (by simp [hx]))]
theorem spC_at {c : UInt8} {a r : List UInt8} (h : ∀ b ∈ a, b ≠ c) : spC c (a ++ c :: r) = a :: spC c r := by
 induction a with
 | nil =>
  show spC c (c :: r) = _
  conv => lhs; unfold spC
  rw [if_pos rfl]
 | cons b l ih =>
  show spC c (b :: (l ++ c :: r)) = _
  conv => lhs; unfold spC
  rw [if_neg (h b (by simp)), ih (fun x hx => h x (by simp [hx]))]
theorem spC_len (c : UInt8) (s : List UInt8) : (spC c s).length ≤ s.length + 1 ∧ ∀ x ∈ spC c s, x.length ≤ s.length := by
 induction s with
 | nil => exact ⟨Nat.le_refl _, fun x hx => by simp [spC] at hx; simp [hx]⟩
 | cons b l ih =>
  unfold spC
  split
  ·refine ⟨by simp; exact ih.1, fun x hx => ?_⟩
   rcases List.mem_cons.1 hx with rfl | hx
   ·simp
   ·have := ih.2 x hx; simp; omega
  ·rcases e : spC c l with _ | ⟨h, t⟩
   ·exact absurd e (spC_ne c l)
   ·rw [e] at ih
    refine ⟨by have := ih.1; simp at this ⊢; omega, fun x hx => ?_⟩
    rcases List.mem_cons.1 hx with rfl | hx
    ·have := ih.2 h (by simp); simp; omega
    ·have := ih.2 x (by simp [hx]); simp; omega
theorem cutC_len (c : UInt8) (s : List UInt8) : (cutC c s).1.length ≤ s.length ∧ (cutC c s).2.1.length ≤ s.length := by
 induction s with
 | nil => exact ⟨Nat.le_refl _, Nat.le_refl _⟩
 | cons b l ih =>
  unfold cutC
  split
  ·simp
  ·simp; omega
abbrev wUs : List UInt8 := [117, 115]
abbrev wBy : List UInt8 := [98, 121, 116, 101]
abbrev wCe : List UInt8 := [99, 101, 110, 116]
abbrev wOn : List UInt8 := [111, 110, 101]
def wd (w : List UInt8) (n : Int) : List UInt8 := if n = 1 then w else w ++ 94 :: Lib.itoa n
def ww (w : List UInt8) (n : Int) : List (List UInt8) := if n = 0 then [] else [wd w n]
def pT (w : List UInt8) (n : Int) : List UInt8 := if n = 0 then [] else 32 :: wd w n
def wsU (u : U4) : List (List UInt8) := ww wUs u.1 ++ (ww wBy u.2.1 ++ (ww wCe u.2.2.1 ++ ww wOn u.2.2.2))
def prU (u : U4) : List UInt8 := pT wUs u.1 ++ (pT wBy u.2.1 ++ (pT wCe u.2.2.1 ++ pT wOn u.2.2.2))
def joinW (ws : List (List UInt8)) : List UInt8 := ws.flatMap fun x => 32 :: x
theorem joinW_app (a b : List (List UInt8)) : joinW (a ++ b) = joinW a ++ joinW b := List.flatMap_append
theorem joinW_ww (w : List UInt8) (n : Int) : joinW (ww w n) = pT w n := by
 unfold joinW ww pT
 split <;> simp
theorem joinW_u (u : U4) : joinW (wsU u) = prU u := by
 unfold wsU prU
 rw [joinW_app, joinW_app, joinW_app, joinW_ww, joinW_ww, joinW_ww, joinW_ww]
theorem sp_join {ws : List (List UInt8)} (h : ∀ x ∈ ws, ∀ b ∈ x, b ≠ 32) {t : List UInt8} (ht : ∀ b ∈ t, b ≠ 32) : spC 32 (t ++ joinW ws) = t :: ws := by
 induction ws generalizing t with
 | nil => rw [show joinW [] = [] from rfl, List.append_nil, spC_none ht]
 | cons x xs ih =>
  have e : joinW (x :: xs) = 32 :: (x ++ joinW xs) := by simp [joinW]
  rw [e, spC_at ht, ih (fun y hy => h y (by simp [hy])) (h x (by simp))]
theorem e3_cases {n : Int} (h : e3 n) : n = -3 ∨ n = -2 ∨ n = -1 ∨ n = 0 ∨ n = 1 ∨ n = 2 ∨ n = 3 := by
 have h1 := h.1
 have h2 := h.2
 omega
theorem it_m3 : Lib.itoa (-3) = [45, 51] := by simp [Lib.itoa, Lib.decDigits]
theorem it_m2 : Lib.itoa (-2) = [45, 50] := by simp [Lib.itoa, Lib.decDigits]
theorem it_m1 : Lib.itoa (-1) = [45, 49] := by simp [Lib.itoa, Lib.decDigits]
theorem it_2 : Lib.itoa 2 = [50] := by simp [Lib.itoa, Lib.decDigits]
theorem it_3 : Lib.itoa 3 = [51] := by simp [Lib.itoa, Lib.decDigits]
def stepU (x : U4) (word : List UInt8) : Option U4 :=
 match (if (cutC 94 word).2.2 then (match Lib.atoiAll (cutC 94 word).2.1 with | .ok m => some m | _ => none) else some 1) with
 | none => none
 | some n => if wUs = (cutC 94 word).1 then some (n, x.2) else if wBy = (cutC 94 word).1 then some (x.1, n, x.2.2) else if wCe = (cutC 94 word).1 then some (x.1, x.2.1, n, x.2.2.2) else if wOn = (cutC 94 word).1 then some (x.1, x.2.1, x.2.2.1, n) else none
theorem foldlM_app {α β : Type} (f : β → α → Option β) (b : β) (l m : List α) : (l ++ m).foldlM f b = (l.foldlM f b).bind fun c => m.foldlM f c := by
 rw [List.foldlM_append]; rfl
theorem step_us {x : U4} {n : Int} (h : e3 n) (hx : x.1 = 0) : (ww wUs n).foldlM stepU x = some (n, x.2) := by
 obtain ⟨a, x⟩ := x
 cases hx
 rcases e3_cases h with rfl | rfl | rfl | rfl | rfl | rfl | rfl <;> first | rfl | (unfold ww wd; first | (rw [it_m3]; rfl) | (rw [it_m2]; rfl) | (rw [it_m1]; rfl) | (rw [it_2]; rfl) | (rw [it_3]; rfl))
theorem step_by {x : U4} {n : Int} (h : e3 n) (hx : x.2.1 = 0) : (ww wBy n).foldlM stepU x = some (x.1, n, x.2.2) := by
 obtain ⟨a, b, x⟩ := x
 cases hx
 rcases e3_cases h with rfl | rfl | rfl | rfl | rfl | rfl | rfl <;> first | rfl | (unfold ww wd; first | (rw [it_m3]; rfl) | (rw [it_m2]; rfl) | (rw [it_m1]; rfl) | (rw [it_2]; rfl) | (rw [it_3]; rfl))
theorem step_ce {x : U4} {n : Int} (h : e3 n) (hx : x.2.2.1 = 0) : (ww wCe n).foldlM stepU x = some (x.1, x.2.1, n, x.2.2.2) := by
 obtain ⟨a, b, c, x⟩ := x
 cases hx
 rcases e3_cases h with rfl | rfl | rfl | rfl | rfl | rfl | rfl <;> first | rfl | (unfold ww wd; first | (rw [it_m3]; rfl) | (rw [it_m2]; rfl) | (rw [it_m1]; rfl) | (rw [it_2]; rfl) | (rw [it_3]; rfl))
theorem step_on {x : U4} {n : Int} (h : e3 n) (hx : x.2.2.2 = 0) : (ww wOn n).foldlM stepU x = some (x.1, x.2.1, x.2.2.1, n) := by
 obtain ⟨a, b, c, x⟩ := x
 cases hx
 rcases e3_cases h with rfl | rfl | rfl | rfl | rfl | rfl | rfl <;> first | rfl | (unfold ww wd; first | (rw [it_m3]; rfl) | (rw [it_m2]; rfl) | (rw [it_m1]; rfl) | (rw [it_2]; rfl) | (rw [it_3]; rfl))
theorem fold_ws {u : U4} (h : uOk u) : (wsU u).foldlM stepU (0, 0, 0, 0) = some u := by
 unfold wsU
 rw [foldlM_app, step_us h.1 rfl, Option.bind_some, foldlM_app, step_by h.2.1 rfl, Option.bind_some, foldlM_app, step_ce h.2.2.1 rfl, Option.bind_some, step_on h.2.2.2 rfl]
theorem itoa_no32 (z : Int) : ∀ b ∈ Lib.itoa z, b ≠ 32 := by
 intro b hb
 unfold Lib.itoa at hb
 split at hb
 ·rcases List.mem_cons.1 hb with rfl | hb
  ·decide
  ·have := dec_isD _ b hb
   unfold isD at this
   rintro rfl
   revert this; decide
 ·have := dec_isD _ b hb
  unfold isD at this
  rintro rfl
  revert this; decide
theorem wd_no32 {w : List UInt8} {n : Int} (hw : ∀ b ∈ w, b ≠ 32) (h : e3 n) : ∀ b ∈ wd w n, b ≠ 32 := by
 unfold wd
 split
 ·exact hw
 ·intro b hb
  rcases List.mem_append.1 hb with hb | hb
  ·exact hw b hb
  ·rcases List.mem_cons.1 hb with rfl | hb
   ·decide
   ·exact itoa_no32 _ b hb
theorem ws_no32 {u : U4} (h : uOk u) : ∀ x ∈ wsU u, ∀ b ∈ x, b ≠ 32 := by
 intro x hx
 unfold wsU at hx
 have k : ∀ {w : List UInt8} {n : Int}, (∀ b ∈ w, b ≠ 32) → e3 n → x ∈ ww w n → ∀ b ∈ x, b ≠ 32 := by
  intro w n hw hn hx
  unfold ww at hx
  split at hx
  ·cases hx
  ·cases List.mem_singleton.1 hx; exact wd_no32 hw hn
 rcases List.mem_append.1 hx with hx | hx
 ·exact k (by decide) h.1 hx
 rcases List.mem_append.1 hx with hx | hx
 ·exact k (by decide) h.2.1 hx
 rcases List.mem_append.1 hx with hx | hx
 ·exact k (by decide) h.2.2.1 hx
 ·exact k (by decide) h.2.2.2 hx
noncomputable def prQ (q : QT) : List UInt8 := if (valQ q).isSome then printS q.p.1 q.p.2 ++ prU q.u else []
theorem prQ_y {q : QT} (h : (valQ q).isSome = true) : prQ q = printS q.p.1 q.p.2 ++ prU q.u := if_pos h
theorem prQ_n {q : QT} (h : (valQ q).isSome = false) : prQ q = [] := if_neg (by rw [h]; decide)
theorem valQ_okR {q : QT} (h : (valQ q).isSome = true) : uOk q.u ∧ okR q.p.1 q.p.2 := by
 obtain ⟨x, hx⟩ := Option.isSome_iff_exists.1 h
 obtain ⟨hu, hp, hr, _⟩ := valQ_some hx
 exact ⟨hu, by rw [hp]; exact ⟨x, rfl, rfl, hr⟩⟩
theorem print_no32 {n d : List UInt8} (h : okR n d) : ∀ b ∈ printS n d, b ≠ 32 := by
 rw [printS_ok h]
 obtain ⟨x, rfl, rfl, _⟩ := h
 split
 ·exact itoa_no32 _
 ·intro b hb
  rcases List.mem_append.1 hb with hb | hb
  ·exact itoa_no32 _ b hb
  ·rcases List.mem_cons.1 hb with rfl | hb
   ·decide
   ·exact itoa_no32 _ b hb
theorem sp_prQ {q : QT} (h : (valQ q).isSome = true) : spC 32 (prQ q) = printS q.p.1 q.p.2 :: wsU q.u := by
 obtain ⟨hu, ho⟩ := valQ_okR h
 rw [prQ_y h, ← joinW_u, sp_join (ws_no32 hu) (print_no32 ho)]
theorem QT_ext {p q : QT} (h1 : p.p = q.p) (h2 : p.u = q.u) : p = q := by
 cases p; cases q; cases h1; cases h2; rfl
theorem prQ_inj {p q : QT} (hp : (valQ p).isSome = true) (hq : (valQ q).isSome = true) (h : prQ p = prQ q) : p = q := by
 have e := sp_prQ hp
 rw [h, sp_prQ hq] at e
 injection e with e1 e2
 have o1 := (valQ_okR hp).2
 have o2 := (valQ_okR hq).2
 have p1 := parse_print o1
 rw [← e1, parse_print o2] at p1
 simp only [Prod.mk.injEq] at p1
 have u1 := fold_ws (valQ_okR hp).1
 rw [← e2, fold_ws (valQ_okR hq).1] at u1
 exact QT_ext (Prod.ext p1.1.symm p1.2.1.symm) (Option.some.inj u1).symm
theorem prQ_ne {q : QT} (h : (valQ q).isSome = true) : prQ q ≠ [] := by
 rw [prQ_y h]
 intro e
 exact printS_ne (valQ_okR h).2 (List.append_eq_nil_iff.1 e).1
open Classical in
noncomputable def parQ (s : List UInt8) : Option QT := if h : ∃ q, (valQ q).isSome = true ∧ prQ q = s then some (Classical.choose h) else none
theorem parQ_y {q : QT} (h : (valQ q).isSome = true) : parQ (prQ q) = some q := by
 have hx : ∃ p, (valQ p).isSome = true ∧ prQ p = prQ q := ⟨q, h, rfl⟩
 unfold parQ
 rw [dif_pos hx]
 exact congrArg some (prQ_inj (Classical.choose_spec hx).1 h (Classical.choose_spec hx).2)
theorem parQ_n {s : List UInt8} (h : ∀ q, (valQ q).isSome = true → prQ q ≠ s) : parQ s = none := by
 unfold parQ
 rw [dif_neg (fun ⟨q, h1, h2⟩ => h q h1 h2)]
def parU (s : List UInt8) : Option U4 := (spC 32 s).tail.foldlM stepU (0, 0, 0, 0)
def hdS (s : List UInt8) : List UInt8 := (spC 32 s).headD []
theorem sp_hd (s : List UInt8) : spC 32 s = hdS s :: (spC 32 s).tail := by
 unfold hdS
 rcases h : spC 32 s with _ | ⟨a, t⟩
 ·exact absurd h (spC_ne 32 s)
 ·rfl
theorem parU_pr {q : QT} (h : (valQ q).isSome = true) : parU (prQ q) = some q.u ∧ hdS (prQ q) = printS q.p.1 q.p.2 := by
 unfold parU hdS
 rw [sp_prQ h]
 exact ⟨fold_ws (valQ_okR h).1, rfl⟩
def encQ (q : QT) : List UInt8 := putS q.p.1 ++ (putS q.p.2 ++ (putI q.u.1 ++ (putI q.u.2.1 ++ (putI q.u.2.2.1 ++ putI q.u.2.2.2))))
def rawQ (l : List UInt8) : Option (QT × Nat) :=
 (decS l).bind fun a => (decS (l.drop a.2)).bind fun b => (decI (l.drop (a.2 + b.2))).bind fun c => (decI (l.drop (a.2 + b.2 + c.2))).bind fun d =>
  (decI (l.drop (a.2 + b.2 + c.2 + d.2))).bind fun e => (decI (l.drop (a.2 + b.2 + c.2 + d.2 + e.2))).bind fun f => some (⟨(a.1, b.1), c.1, d.1, e.1, f.1⟩, a.2 + b.2 + c.2 + d.2 + e.2 + f.2)
noncomputable def decQ (l : List UInt8) : Option (QT × Nat) := (rawQ l).bind fun x => if (valQ x.1).isSome then some x else none
theorem enc_bd {q : QT} (h : (valQ q).isSome = true) : q.p.1.length ≤ 61 ∧ q.p.2.length ≤ 60 ∧ uOk q.u := by
 obtain ⟨x, hx⟩ := Option.isSome_iff_exists.1 h
 obtain ⟨hu, hp, hr, h6⟩ := valQ_some hx
 rw [hp]
 refine ⟨?_, den_le60.2 h6.2, hu⟩
 have h1 := trim_le.2 h6.1
 rw [trim_itoa] at h1
 show (Lib.itoa x.num).length ≤ 61
 by_cases hn : x.num < 0
 ·rw [itoa_neg1 hn, List.length_cons]; omega
 ·rw [itoa_nn1 (by omega)]; omega
theorem rawQ_put {q : QT} (h1 : q.p.1.length ≤ 65536) (h2 : q.p.2.length ≤ 65536) (hu : uOk q.u) (r : List UInt8) : rawQ (encQ q ++ r) = some (q, (encQ q).length) := by
 have b1 := hu.1
 have b2 := hu.2.1
 have b3 := hu.2.2.1
 have b4 := hu.2.2.2
 have c1 := fun r => decI_put (n := q.u.1) (by omega) (by omega) r
 have c2 := fun r => decI_put (n := q.u.2.1) (by omega) (by omega) r
 have c3 := fun r => decI_put (n := q.u.2.2.1) (by omega) (by omega) r
 have c4 := fun r => decI_put (n := q.u.2.2.2) (by omega) (by omega) r
 have e1 : encQ q ++ r = putS q.p.1 ++ (putS q.p.2 ++ (putI q.u.1 ++ (putI q.u.2.1 ++ (putI q.u.2.2.1 ++ (putI q.u.2.2.2 ++ r))))) := by
  unfold encQ; simp only [List.append_assoc]
 have hd : ∀ (a b : List UInt8), (a ++ b).drop a.length = b := fun a b => List.drop_left
 have hd2 : ∀ (a b : List UInt8) (n : Nat), (a ++ b).drop (a.length + n) = b.drop n := fun a b n => by rw [List.drop_append]; simp
 unfold rawQ
 rw [e1, decS_put h1]
 simp only [Option.bind_some]
 rw [hd, decS_put h2]
 simp only [Option.bind_some]
 rw [hd2, hd, c1]
 simp only [Option.bind_some]
 rw [Nat.add_assoc, hd2, hd2, hd, c2]
 simp only [Option.bind_some]
 simp only [Nat.add_assoc]
 rw [hd2, hd2, hd2, hd, c3]
 simp only [Option.bind_some]
 rw [hd2, hd2, hd2, hd2, hd, c4]
 simp only [Option.bind_some]
 unfold encQ
 simp only [List.length_append]
theorem decQ_put {q : QT} (h : (valQ q).isSome = true) (r : List UInt8) : decQ (encQ q ++ r) = some (q, (encQ q).length) := by
 obtain ⟨h1, h2, h3⟩ := enc_bd h
 unfold decQ
 rw [rawQ_put (by omega) (by omega) h3]
 simp only [Option.bind_some]
 rw [if_pos h]
noncomputable def apO (z : Option Rat) (u : U4) : Option QT := z.bind fun x => if (valQ ⟨tx x, u⟩).isSome then some ⟨tx x, u⟩ else none
noncomputable def opQ (al : Bool) (f : Option Rat → Option Rat → Option Rat) (g : Int → Int → Int) (a b : QT) : Option QT :=
 if al = true ∧ a.u ≠ b.u then none else
 match valQ a, valQ b with
 | some x, some y => apO (f (some x) (some y)) (g a.u.1 b.u.1, g a.u.2.1 b.u.2.1, g a.u.2.2.1 b.u.2.2.1, g a.u.2.2.2 b.u.2.2.2)
 | _, _ => none
noncomputable abbrev addO := opQ true oAdd (fun x _ => x)
noncomputable abbrev subO := opQ true oSub (fun x _ => x)
noncomputable abbrev mulO := opQ false oMul (fun x y => x + y)
noncomputable abbrev divO := opQ false oDiv (fun x y => x - y)
noncomputable def cmpO (a b : QT) : Option Int :=
 if a.u ≠ b.u then none else
 match valQ a, valQ b with
 | some x, some y => some (cmpQ x y)
 | _, _ => none
open Classical in
theorem valQ_tx {x : Rat} {u : U4} (hr : RB x) : valQ ⟨tx x, u⟩ = if uOk u ∧ F60 x then some x else none := by
 unfold valQ
 by_cases hu : uOk u
 ·rw [if_pos hu]
  by_cases hf : F60 x
  ·rw [if_pos ⟨hu, hf⟩]; exact fitO_y hr hf
  ·rw [if_neg (fun h => hf h.2)]; exact fitO_f hr hf
 ·rw [if_neg hu, if_neg (fun h => hu h.1)]
theorem apO_y {x : Rat} {u : U4} (hr : RB x) (h : uOk u ∧ F60 x) : apO (some x) u = some ⟨tx x, u⟩ := by
 unfold apO
 simp only [Option.bind_some]
 rw [valQ_tx hr, if_pos h]; rfl
theorem apO_n {x : Rat} {u : U4} (hr : RB x) (h : ¬ (uOk u ∧ F60 x)) : apO (some x) u = none := by
 unfold apO
 simp only [Option.bind_some]
 rw [valQ_tx hr, if_neg h]; rfl
theorem apO_get {z : Option Rat} {u : U4} {q : QT} (h : apO z u = some q) : (valQ q).isSome = true ∧ q.u = u ∧ ∃ x, z = some x ∧ q.p = tx x := by
 rcases z with _ | x
 ·cases h
 ·unfold apO at h
  simp only [Option.bind_some] at h
  split at h
  ·next hv => cases h; exact ⟨hv, rfl, x, rfl, rfl⟩
  ·cases h
theorem opQ_v {al : Bool} {f : Option Rat → Option Rat → Option Rat} {g : Int → Int → Int} {a b : QT} {x y : Rat} (ha : valQ a = some x) (hb : valQ b = some y) (hu : al = true → a.u = b.u) :
 opQ al f g a b = apO (f (some x) (some y)) (g a.u.1 b.u.1, g a.u.2.1 b.u.2.1, g a.u.2.2.1 b.u.2.2.1, g a.u.2.2.2 b.u.2.2.2) := by
 unfold opQ
 rw [if_neg (fun h => h.2 (hu h.1)), ha, hb]
theorem opQ_u {f : Option Rat → Option Rat → Option Rat} {g : Int → Int → Int} {a b : QT} (h : a.u ≠ b.u) : opQ true f g a b = none := by
 unfold opQ
 rw [if_pos ⟨rfl, h⟩]
theorem opQ_na {al : Bool} {f : Option Rat → Option Rat → Option Rat} {g : Int → Int → Int} {a b : QT} (h : (valQ a).isSome = false) : opQ al f g a b = none := by
 unfold opQ
 rw [Option.isSome_eq_false_iff.1 h |> Option.isNone_iff_eq_none.1]
 split <;> rfl
theorem opQ_nb {al : Bool} {f : Option Rat → Option Rat → Option Rat} {g : Int → Int → Int} {a b : QT} (h : (valQ b).isSome = false) : opQ al f g a b = none := by
 unfold opQ
 rw [Option.isSome_eq_false_iff.1 h |> Option.isNone_iff_eq_none.1]
 split
 ·rfl
 ·split <;> first | rfl | (next h => cases h)
theorem opQ_get {al : Bool} {f : Option Rat → Option Rat → Option Rat} {g : Int → Int → Int} {a b q : QT} (h : opQ al f g a b = some q) :
 (al = true → a.u = b.u) ∧ ∃ x y z, valQ a = some x ∧ valQ b = some y ∧ f (some x) (some y) = some z ∧ valQ q = some z ∧ q.u = (g a.u.1 b.u.1, g a.u.2.1 b.u.2.1, g a.u.2.2.1 b.u.2.2.1, g a.u.2.2.2 b.u.2.2.2) := by
 unfold opQ at h
 split at h
 ·cases h
 ·next hu =>
  refine ⟨fun e => Classical.byContradiction fun hc => hu ⟨e, hc⟩, ?_⟩
  split at h
  ·next x y ha hb =>
   obtain ⟨hv, hq, z, hz, hp⟩ := apO_get h
   refine ⟨x, y, z, ha, hb, hz, ?_, hq⟩
   obtain ⟨z', hz'⟩ := Option.isSome_iff_exists.1 hv
   rw [hz']
   have := (valQ_some hz').2.1
   rw [hp] at this
   rw [tx_inj this]
  ·cases h
theorem oAdd_fit {x y : Rat} (hx : F60 x) (hy : F60 y) : oAdd (some x) (some y) = some (x + y) := by
 show (if (addQ x y).2.2 = 0 then some (x + y) else none) = _
 rw [qadd_ok (k := 120) hx hy (by decide) (by decide) (by decide) (by decide)]
 rfl
theorem oSub_fit {x y : Rat} (hx : F60 x) (hy : F60 y) : oSub (some x) (some y) = some (x - y) := by
 show (if (subQ x y).2.2 = 0 then some (x - y) else none) = _
 rw [qsub_ok (k := 120) hx hy (by decide) (by decide) (by decide) (by decide)]
 rfl
theorem oMul_fit {x y : Rat} (hx : F60 x) (hy : F60 y) : oMul (some x) (some y) = some (x * y) := by
 show (if (mulQ x y).2.2 = 0 then some (x * y) else none) = _
 rw [qmul_ok hx hy (by decide) (by decide)]
 rfl
theorem oDiv_fit {x y : Rat} (hx : F60 x) (hy : F60 y) (h0 : y ≠ 0) : oDiv (some x) (some y) = some (x / y) := by
 show (if (divQ x y).2.2 = 0 then some (x / y) else none) = _
 rw [qdiv_ok hx hy h0 (by decide) (by decide)]
 rfl
theorem oDiv_zero {x : Rat} : oDiv (some x) (some 0) = none := by
 show (if (divQ x 0).2.2 = 0 then some (x / 0) else none) = _
 rcases div_cases x 0 with h | ⟨_, _, h⟩
 ·rw [h]; rfl
 ·exact absurd rfl h
end Go.Proofs.YtdbcpkihokagkaaGreatDoor
