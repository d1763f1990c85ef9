/-
  Contracts and plain lemmas. By an AI agent.
-/
import Derived.Test.YtdbcpkihokagkaaGreatDoorUoF
import Derived.Test.YtdbcpkihokagkaaGreatDoorEngYi
import Derived.Test.YtdbcpkihokagkaaGreatDoorUoG
set_option linter.unusedSimpArgs false
set_option linter.unusedVariables false
set_option linter.unusedSectionVars false
namespace Go.Proofs.YtdbcpkihokagkaaGreatDoor
open Go Go.Eng Go.Proofs Go.Num Go.RowKit
set_option maxRecDepth 100000
def pcs : List UInt8 → List UInt8
 | [] => []
 | b :: t => b :: t.takeWhile fun x => decide (x ≠ 32)
def sixN : List Int := [-3, -2, -1, 1, 2, 3]
def bgO (w l : List UInt8) : Option Int := sixN.find? fun n => pcs l == pT w n
def bgN (w l : List UInt8) : Int := (bgO w l).getD 0
def bgL (w l : List UInt8) : Nat := if (bgO w l).isSome then (pcs l).length else 0
theorem drop_tw (p : UInt8 → Bool) : ∀ t : List UInt8, t.drop (t.takeWhile p).length = t.dropWhile p
 | [] => rfl
 | c :: t => by
  by_cases h : p c = true
  ·rw [List.takeWhile_cons_of_pos h, List.dropWhile_cons_of_pos h, List.length_cons, List.drop_succ_cons]
   exact drop_tw p t
  ·rw [List.takeWhile_cons_of_neg h, List.dropWhile_cons_of_neg h]; rfl
theorem pcs_pre (l : List UInt8) : pcs l ++ l.drop (pcs l).length = l := by
 rcases l with _ | ⟨b, t⟩
 ·rfl
 ·show b :: (t.takeWhile _ ++ t.drop (t.takeWhile _).length) = b :: t
  rw [drop_tw, List.takeWhile_append_dropWhile]
theorem take_of {l a r : List UInt8} (h : a ++ r = l) : l.take a.length = a := by rw [← h]; exact List.take_left
theorem pcs_len (l : List UInt8) : (pcs l).length ≤ l.length := by
 have := congrArg List.length (pcs_pre l)
 rw [List.length_append] at this
 omega
theorem pcs_take (l : List UInt8) : l.take (pcs l).length = pcs l := take_of (pcs_pre l)
theorem tw_lt {t : List UInt8} : ∀ {j : Nat}, j < (t.takeWhile fun x => decide (x ≠ 32)).length → ∃ b, t[j]? = some b ∧ b ≠ 32 := by
 induction t with
 | nil => intro j h; simp at h
 | cons c t ih =>
  intro j h
  by_cases hc : c = 32
  ·subst hc; simp at h
  ·rw [List.takeWhile_cons_of_pos (by simpa using hc)] at h
   rcases j with _ | j
   ·exact ⟨c, rfl, hc⟩
   ·exact ih (by rw [List.length_cons] at h; omega)
theorem tw_at {t : List UInt8} : ∀ {b : UInt8}, t[(t.takeWhile fun x => decide (x ≠ 32)).length]? = some b → b = 32 := by
 induction t with
 | nil => intro b h; simp at h
 | cons c t ih =>
  intro b h
  by_cases hc : c = 32
  ·subst hc
   simp at h
   exact h.symm
  ·rw [List.takeWhile_cons_of_pos (by simpa using hc)] at h
   exact ih (by simpa using h)
theorem pcs_lt {l : List UInt8} {j : Nat} (h : j < (pcs l).length) : j < l.length ∧ (j = 0 ∨ ∃ b, l[j]? = some b ∧ b ≠ 32) := by
 refine ⟨Nat.lt_of_lt_of_le h (pcs_len l), ?_⟩
 rcases l with _ | ⟨c, t⟩
 ·simp [pcs] at h
 ·rcases j with _ | j
  ·exact .inl rfl
  ·have := tw_lt (t := t) (j := j) (by unfold pcs at h; rw [List.length_cons] at h; omega)
   exact .inr (by simpa using this)
theorem pcs_at {l : List UInt8} (h : (pcs l).length < l.length) : 0 < (pcs l).length ∧ l[(pcs l).length]? = some 32 := by
 rcases l with _ | ⟨c, t⟩
 ·simp at h
 ·refine ⟨by simp [pcs], ?_⟩
  have hb : ∃ b, (c :: t)[(pcs (c :: t)).length]? = some b := ⟨_, List.getElem?_eq_getElem h⟩
  obtain ⟨b, hb⟩ := hb
  rw [hb]
  have : t[(t.takeWhile fun x => decide (x ≠ 32)).length]? = some b := by simpa [pcs] using hb
  rw [tw_at this]
theorem bg_eat (w l : List UInt8) : l = pT w (bgN w l) ++ l.drop (bgL w l) := by
 unfold bgN bgL
 rcases h : bgO w l with _ | n
 ·simp [pT_0]
 ·have hp := List.find?_some h
  have : pcs l = pT w n := by simpa using hp
  simp only [Option.getD_some, Option.isSome_some, if_true]
  rw [← this, pcs_pre]
def hdOk (l : List UInt8) : Prop := l = [] ∨ ∃ t, l = 32 :: t
theorem tw_app {a r : List UInt8} (ha : ∀ b ∈ a, b ≠ 32) (hr : hdOk r) : (a ++ r).takeWhile (fun x => decide (x ≠ 32)) = a := by
 rw [List.takeWhile_append_of_pos (by simpa using ha)]
 rcases hr with rfl | ⟨t, rfl⟩
 ·simp
 ·simp
theorem pcs_pT {w r : List UInt8} {n : Int} (hw : ∀ b ∈ w, b ≠ 32) (hn : e3 n) (h0 : n ≠ 0) (hr : hdOk r) : pcs (pT w n ++ r) = pT w n := by
 have e : pT w n = 32 :: wd w n := if_neg h0
 rw [e]
 show 32 :: (wd w n ++ r).takeWhile _ = _
 rw [tw_app (wd_no32 hw hn) hr]
theorem pT_six {w : List UInt8} {a b : Int} (ha : e3 a) (hb : e3 b) (h : pT w a = pT w b) : a = b := by
 have key : ∀ n : Int, e3 n → (pT w n).drop (w.length + 1) = if n = 0 ∨ n = 1 then [] else 94 :: Lib.itoa n := by
  intro n hn
  by_cases h0 : n = 0
  ·rw [pT_0 h0, if_pos (.inl h0)]; simp
  ·by_cases h1 : n = 1
   ·rw [pT_1 h1, if_pos (.inr h1)]; simp
   ·rw [pT_n h0 h1, if_neg (by omega)]; simp
 have k := congrArg (List.drop (w.length + 1)) h
 rw [key a ha, key b hb] at k
 have kl := congrArg List.length h
 rcases e3_cases ha with rfl | rfl | rfl | rfl | rfl | rfl | rfl <;> rcases e3_cases hb with rfl | rfl | rfl | rfl | rfl | rfl | rfl <;>
  first
  | rfl
  | (exfalso; simp [it_m3, it_m2, it_m1, it_2, it_3] at k; done)
  | (exfalso; rw [pT_0 rfl, pT_1 rfl] at kl; simp at kl; done)
  | (exfalso; rw [pT_1 rfl, pT_0 rfl] at kl; simp at kl; done)
theorem find_some {l : List Int} {p : Int → Bool} {n : Int} (hm : n ∈ l) (hp : p n = true) (hu : ∀ m ∈ l, p m = true → m = n) : l.find? p = some n := by
 rcases h : l.find? p with _ | m
 ·have := List.find?_eq_none.1 h n hm
  exact absurd hp this
 ·rw [hu m (List.mem_of_find?_eq_some h) (List.find?_some h)]
theorem six_mem {n : Int} : n ∈ sixN ↔ e3 n ∧ n ≠ 0 := by
 simp only [sixN, List.mem_cons, List.not_mem_nil, or_false]
 constructor
 ·rintro (rfl | rfl | rfl | rfl | rfl | rfl) <;> exact ⟨⟨by decide, by decide⟩, by decide⟩
 ·rintro ⟨h, h0⟩
  rcases e3_cases h with rfl | rfl | rfl | rfl | rfl | rfl | rfl <;> simp at h0 ⊢
theorem bg_hit {w r : List UInt8} {n : Int} (hw : ∀ b ∈ w, b ≠ 32) (hn : e3 n) (h0 : n ≠ 0) (hr : hdOk r) : bgN w (pT w n ++ r) = n ∧ (pT w n ++ r).drop (bgL w (pT w n ++ r)) = r := by
 have hp := pcs_pT hw hn h0 hr
 have hf : bgO w (pT w n ++ r) = some n := by
  unfold bgO
  rw [hp]
  refine find_some (six_mem.2 ⟨hn, h0⟩) (by simp) fun m hm he => ?_
  exact (pT_six hn (six_mem.1 hm).1 (by simpa using he)).symm
 unfold bgN bgL
 rw [hf, hp]
 simp
theorem bg_miss {w l : List UInt8} (h : ∀ n, e3 n → n ≠ 0 → pcs l ≠ pT w n) : bgN w l = 0 ∧ l.drop (bgL w l) = l := by
 have hf : bgO w l = none := by
  unfold bgO
  rw [List.find?_eq_none]
  intro n hn he
  obtain ⟨h1, h2⟩ := six_mem.1 hn
  exact h n h1 h2 (by simpa using he)
 unfold bgN bgL
 rw [hf]
 simp
theorem pT_hd {w : List UInt8} {n : Int} {r : List UInt8} (hr : hdOk r) : hdOk (pT w n ++ r) := by
 by_cases h0 : n = 0
 ·rw [pT_0 h0]; exact hr
 ·rw [show pT w n = 32 :: wd w n from if_neg h0]; exact .inr ⟨_, rfl⟩
theorem pT_snd {w : List UInt8} {n : Int} {c : UInt8} {t : List UInt8} (hw : w = c :: t) (h0 : n ≠ 0) : (pT w n)[1]? = some c := by
 rw [show pT w n = 32 :: wd w n from if_neg h0, hw]
 unfold wd
 split <;> rfl
theorem pT_ne {w w' : List UInt8} {c c' : UInt8} {t t' : List UInt8} {m n : Int} (hw : w = c :: t) (hw' : w' = c' :: t') (hc : c ≠ c') (hm : m ≠ 0) (hn : n ≠ 0) : pT w n ≠ pT w' m := by
 intro e
 have h1 := pT_snd hw hn
 rw [e, pT_snd hw' hm] at h1
 exact hc (Option.some.inj h1).symm
theorem pcs_next {w r : List UInt8} {n : Int} (hw : ∀ b ∈ w, b ≠ 32) (hn : e3 n) (hr : hdOk r) : pcs (pT w n ++ r) = if n = 0 then pcs r else pT w n := by
 by_cases h0 : n = 0
 ·rw [if_pos h0, pT_0 h0]; rfl
 ·rw [if_neg h0, pcs_pT hw hn h0 hr]
theorem bg_step {w r : List UInt8} {n : Int} (hw : ∀ b ∈ w, b ≠ 32) (hn : e3 n) (hr : hdOk r) (hm : ∀ m, e3 m → m ≠ 0 → pcs r ≠ pT w m) : bgN w (pT w n ++ r) = n ∧ (pT w n ++ r).drop (bgL w (pT w n ++ r)) = r := by
 by_cases h0 : n = 0
 ·have e : pT w n ++ r = r := by rw [pT_0 h0]; rfl
  rw [e]
  have := bg_miss hm
  exact ⟨this.1.trans h0.symm, this.2⟩
 ·exact bg_hit hw hn h0 hr
def rp0 (s : List UInt8) : Nat := (s.takeWhile fun x => decide (x ≠ 32)).length
def rl0 (s : List UInt8) : List UInt8 := s.drop (rp0 s)
def rl1 (s : List UInt8) : List UInt8 := (rl0 s).drop (bgL wUs (rl0 s))
def rl2 (s : List UInt8) : List UInt8 := (rl1 s).drop (bgL wBy (rl1 s))
def rl3 (s : List UInt8) : List UInt8 := (rl2 s).drop (bgL wCe (rl2 s))
def rl4 (s : List UInt8) : List UInt8 := (rl3 s).drop (bgL wOn (rl3 s))
def rpU (s : List UInt8) : U4 := (bgN wUs (rl0 s), bgN wBy (rl1 s), bgN wCe (rl2 s), bgN wOn (rl3 s))
theorem rp_take (s : List UInt8) : s.take (rp0 s) = s.takeWhile fun x => decide (x ≠ 32) := by
 unfold rp0
 exact take_of (r := s.dropWhile fun x => decide (x ≠ 32)) List.takeWhile_append_dropWhile
theorem rp_eat (s : List UInt8) : s = s.take (rp0 s) ++ prU (rpU s) ++ rl4 s := by
 have h0 : s.take (rp0 s) ++ rl0 s = s := List.take_append_drop _ _
 have h1 : rl0 s = pT wUs (bgN wUs (rl0 s)) ++ rl1 s := bg_eat _ _
 have h2 : rl1 s = pT wBy (bgN wBy (rl1 s)) ++ rl2 s := bg_eat _ _
 have h3 : rl2 s = pT wCe (bgN wCe (rl2 s)) ++ rl3 s := bg_eat _ _
 have h4 : rl3 s = pT wOn (bgN wOn (rl3 s)) ++ rl4 s := bg_eat _ _
 have e : rl0 s = prU (rpU s) ++ rl4 s := by
  unfold prU rpU
  simp only [List.append_assoc]
  rw [← h4, ← h3, ← h2, ← h1]
 conv => lhs; rw [← h0, e]
 rw [List.append_assoc]
theorem rp_pr {q : QT} (hv : (valQ q).isSome = true) : (prQ q).take (rp0 (prQ q)) = printS q.p.1 q.p.2 ∧ rpU (prQ q) = q.u ∧ rl4 (prQ q) = [] := by
 obtain ⟨hu, ho⟩ := valQ_okR hv
 have hP := print_no32 ho
 have w1 : ∀ b ∈ wUs, b ≠ 32 := by decide
 have w2 : ∀ b ∈ wBy, b ≠ 32 := by decide
 have w3 : ∀ b ∈ wCe, b ≠ 32 := by decide
 have w4 : ∀ b ∈ wOn, b ≠ 32 := by decide
 have k0 : hdOk [] := .inl rfl
 have r4e : pT wOn q.u.2.2.2 = pT wOn q.u.2.2.2 ++ [] := (List.append_nil _).symm
 have k4 : hdOk (pT wOn q.u.2.2.2) := by rw [r4e]; exact pT_hd k0
 have k3 : hdOk (pT wCe q.u.2.2.1 ++ pT wOn q.u.2.2.2) := pT_hd k4
 have k2 : hdOk (pT wBy q.u.2.1 ++ (pT wCe q.u.2.2.1 ++ pT wOn q.u.2.2.2)) := pT_hd k3
 have k1 : hdOk (prU q.u) := pT_hd k2
 have n0 : ∀ (w : List UInt8) (m : Int), e3 m → m ≠ 0 → pcs [] ≠ pT w m := fun w m _ hm e => by
  rw [show pT w m = 32 :: wd w m from if_neg hm] at e; cases e
 have p4 : pcs (pT wOn q.u.2.2.2) = if q.u.2.2.2 = 0 then pcs [] else pT wOn q.u.2.2.2 := by
  have := pcs_next w4 hu.2.2.2 k0
  rw [← r4e] at this; exact this
 have p3 := pcs_next w3 hu.2.2.1 k4
 have p2 := pcs_next w2 hu.2.1 k3
 have m4 : ∀ {w : List UInt8} {c : UInt8} {t : List UInt8}, w = c :: t → c ≠ 111 → ∀ m, e3 m → m ≠ 0 → pcs (pT wOn q.u.2.2.2) ≠ pT w m := fun hw hc m h3 hm => by
  rw [p4]; split
  ·exact n0 _ m h3 hm
  ·next h0 => exact pT_ne (w := wOn) rfl hw (Ne.symm hc) hm h0
 have m3 : ∀ {w : List UInt8} {c : UInt8} {t : List UInt8}, w = c :: t → c ≠ 111 → c ≠ 99 → ∀ m, e3 m → m ≠ 0 → pcs (pT wCe q.u.2.2.1 ++ pT wOn q.u.2.2.2) ≠ pT w m := fun hw hc hd m h3 hm => by
  rw [p3]; split
  ·exact m4 hw hc m h3 hm
  ·next h0 => exact pT_ne (w := wCe) rfl hw (Ne.symm hd) hm h0
 have m2 : ∀ {w : List UInt8} {c : UInt8} {t : List UInt8}, w = c :: t → c ≠ 111 → c ≠ 99 → c ≠ 98 → ∀ m, e3 m → m ≠ 0 → pcs (pT wBy q.u.2.1 ++ (pT wCe q.u.2.2.1 ++ pT wOn q.u.2.2.2)) ≠ pT w m := fun hw hc hd hg m h3 hm => by
  rw [p2]; split
  ·exact m3 hw hc hd m h3 hm
  ·next h0 => exact pT_ne (w := wBy) rfl hw (Ne.symm hg) hm h0
 have s1 := bg_step w1 hu.1 k2 (m2 rfl (by decide) (by decide) (by decide))
 have s2 := bg_step w2 hu.2.1 k3 (m3 rfl (by decide) (by decide))
 have s3 := bg_step w3 hu.2.2.1 k4 (m4 rfl (by decide))
 have s4 := bg_step w4 hu.2.2.2 k0 (n0 wOn)
 rw [← r4e] at s4
 have etw : (prQ q).takeWhile (fun x => decide (x ≠ 32)) = printS q.p.1 q.p.2 := by
  rw [prQ_y hv]; exact tw_app hP k1
 have e0 : rl0 (prQ q) = prU q.u := by
  unfold rl0 rp0
  rw [etw, prQ_y hv]; exact List.drop_left
 have e1 : rl1 (prQ q) = pT wBy q.u.2.1 ++ (pT wCe q.u.2.2.1 ++ pT wOn q.u.2.2.2) := by unfold rl1; rw [e0]; exact s1.2
 have e2 : rl2 (prQ q) = pT wCe q.u.2.2.1 ++ pT wOn q.u.2.2.2 := by unfold rl2; rw [e1]; exact s2.2
 have e3 : rl3 (prQ q) = pT wOn q.u.2.2.2 := by unfold rl3; rw [e2]; exact s3.2
 have e4 : rl4 (prQ q) = [] := by unfold rl4; rw [e3]; exact s4.2
 refine ⟨by rw [rp_take, etw], ?_, e4⟩
 unfold rpU
 rw [e0, e1, e2, e3]
 exact Prod.ext s1.1 (Prod.ext s2.1 (Prod.ext s3.1 s4.1))
theorem parseS_z (s : List UInt8) : ∃ z : Option Rat, OB z ∧ parseS s = (eN z, eD z, eE z) := by
 by_cases h : printS (numS s) (denS s) = s ∧ s ≠ []
 ·have ho : okR (numS s) (denS s) := Classical.byContradiction fun hc => h.2 (h.1.symm.trans (printS_bad hc))
  obtain ⟨x, h1, h2, h3⟩ := ho
  refine ⟨some x, .some h3, ?_⟩
  unfold parseS
  rw [if_pos h, h1, h2]; rfl
 ·refine ⟨none, .none, ?_⟩
  unfold parseS
  rw [if_neg h]; rfl
theorem ref_par {s : List UInt8} {z : Option Rat} (hz : parseS (s.take (rp0 s)) = (eN z, eD z, eE z)) : (rl4 s ≠ [] → parQ s = none) ∧ (rl4 s = [] → apO z (rpU s) = parQ s) := by
 constructor
 ·intro h4
  refine parQ_n fun q hv e => h4 ?_
  rw [← e]; exact (rp_pr hv).2.2
 ·intro h4
  have he := rp_eat s
  rw [h4, List.append_nil] at he
  rcases ha : apO z (rpU s) with _ | q
  ·refine (parQ_n fun q hv e => ?_).symm
   obtain ⟨e1, e2, _⟩ := rp_pr hv
   rw [e] at e1 e2
   rw [e1, parse_print (valQ_okR hv).2] at hz
   simp only [Prod.mk.injEq] at hz
   obtain ⟨h1, h2, h3⟩ := hz
   rcases z with _ | x
   ·cases h3
   ·have hx : valQ ⟨tx x, rpU s⟩ = valQ q := congrArg valQ (QT_ext (Prod.ext h1.symm h2.symm) e2)
    unfold apO at ha
    simp only [Option.bind_some] at ha
    rw [hx, hv] at ha
    cases ha
  ·obtain ⟨hv, hu, x, rfl, hp⟩ := apO_get ha
   have hpq : printS q.p.1 q.p.2 = s.take (rp0 s) := by
    unfold parseS at hz
    split at hz
    ·next hc =>
     simp only [Prod.mk.injEq] at hz
     rw [hp]
     show printS (eN (some x)) (eD (some x)) = _
     rw [← hz.1, ← hz.2.1]; exact hc.1
    ·exact absurd (show (40 : Int) = 0 from congrArg (fun t : R3 => t.2.2) hz) (by decide)
   have : prQ q = s := by
    rw [prQ_y hv, hpq, hu]; exact he.symm
   rw [← this]; exact (parQ_y hv).symm
end Go.Proofs.YtdbcpkihokagkaaGreatDoor
