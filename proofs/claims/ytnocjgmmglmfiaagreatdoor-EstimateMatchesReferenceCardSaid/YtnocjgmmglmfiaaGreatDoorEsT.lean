/-
  Contracts and plain lemmas. By an AI agent.
-/
import Derived.Test.YtnocjgmmglmfiaaGreatDoorEsQ
set_option linter.unusedSimpArgs false
set_option linter.unusedVariables false
set_option linter.unusedSectionVars false
namespace Go.Proofs.YtnocjgmmglmfiaaGreatDoor
open Go Go.Eng Go.Proofs Go.Num Go.RowKit
set_option maxRecDepth 100000
set_option linter.unusedVariables false
set_option linter.unusedSimpArgs false
set_option linter.unusedSectionVars false
theorem _root_.Go.Eng.Rf2.mkG {P : Program} {gv : Value} {w : World} {B : Value → Value → World → (World → Prop) → (Exit → World → Prop) → Prop} {After Ret : Nat → World → Prop}
    (gf : FuncId) (lb : Array Value) (n : Nat) (Y : Nat → List Value → World → Prop) (Rl : World → World → Prop) (J : Nat → World → Prop)
    (hg : gv = .func (.func gf) #[] lb) (hn : Enters P gf) (hlen : ∀ i vs W, Y i vs W → vs.length = 2) (hit : IterG P gf lb n Y Rl w J) (hok : IterOk w Y Rl J (fun _ _ => False)) (h0 : J 0 w)
    (hB : ∀ (a0 a1 : Value) (i : Nat) (W : World), i < n → Y i [a0, a1] W → J i W → w.heap.size ≤ W.heap.size → B a0 a1 W (fun W' => J (i + 1) W' ∧ Kf w.heap.size W W') (fun e W' => False ∧ Kf w.heap.size W W'))
    (hA : ∀ D W, w.heap.size ≤ D → W.heap[D]? = some (.deferred (some [])) → J n W → After D W) : Rf2 P gv w B After Ret [] :=
  ⟨gf, lb, n, Y, Rl, J, fun _ _ => False, hg, hn, hlen, hit, hok, h0, hB, hA, fun _ _ _ _ h => h.elim, fun p hp => by simp at hp⟩
theorem c_choices {w : World} {g : Nat} {v : Value} (hv : v.cells = #[v]) : Calls Tryz.prog 46 #[pr g 0, v] w (Ret fun r w' => Ext w w' ∧ ∃ gl gc, r = .func (.func 75) #[] #[pr gl 0, pr gc 0] ∧ Blk w' gl tLs [v] ∧ Blk w' gc tCp [pt g] ∧ w.heap.size ≤ gl ∧ w.heap.size ≤ gc ∧ gl ≠ gc) := by
  apply e_estimate_calculator_choices
  unfold s_estimate_calculator_choices
  have h := Hp.init [] w
  have cp : (pr g 0).cells = #[pr g 0] := rfl
  refine bx1 h rfl fun g1 w h => ?_
  refine bx1 h hv fun g2 w h => ?_
  have k1 := ge0 h (i := 1) rfl
  have k2 := ge0 h (i := 0) rfl
  exact Ret.mk ⟨h.ext, g2, g1, rfl, h.get (i := 0) rfl, h.get (i := 1) rfl, k2, k1, fun e => h.ne (i := 0) (j := 1) rfl rfl (by decide) g2 (by simp) (by simp [e])⟩
theorem oSumN_none {G : Nat → Option Rat} {k : Nat} (h : G k = none) : ∀ {n : Nat}, k < n → oSumN G n = none
  | 0, hk => by omega
  | n + 1, hk => by
    show oAdd (oSumN G n) (G n) = none
    by_cases e : k = n
    · subst e; rw [h]; exact oBin_n2 _
    · rw [oSumN_none h (by omega : k < n)]; rfl
theorem oSumN_mono {G : Nat → Option Rat} {k : Nat} (h : oSumN G k = none) : ∀ {n : Nat}, k ≤ n → oSumN G n = none
  | 0, hk => by
    have : k = 0 := by omega
    subst this; exact h
  | n + 1, hk => by
    by_cases e : k = n + 1
    · subst e; exact h
    · show oAdd (oSumN G n) (G n) = none
      rw [oSumN_mono h (by omega : k ≤ n)]; rfl
theorem exp_step {f : Bool} {a m d e1 d1 W E D est esd : Option Rat} (hf : f = false → (a = W ∧ a.isSome = true) ∧ (m = E ∧ m.isSome = true) ∧ (d = D ∧ d.isSome = true)) (h1 : (f || est.isNone) = false → e1 = est)
    (h4 : (((f || est.isNone) || (oMul a e1).isNone || (oAdd m (nV (f || est.isNone) (oMul a e1))).isNone) || esd.isNone) = false → d1 = esd) :
    ((((((f || est.isNone) || (oMul a e1).isNone || (oAdd m (nV (f || est.isNone) (oMul a e1))).isNone) || esd.isNone) || (oMul a d1).isNone) || (oAdd d (nV (((f || est.isNone) || (oMul a e1).isNone || (oAdd m (nV (f || est.isNone) (oMul a e1))).isNone) || esd.isNone) (oMul a d1))).isNone) = false →
      (nV ((f || est.isNone) || (oMul a e1).isNone) (oAdd m (nV (f || est.isNone) (oMul a e1))) = oAdd E (oMul W est) ∧ (nV ((f || est.isNone) || (oMul a e1).isNone) (oAdd m (nV (f || est.isNone) (oMul a e1)))).isSome = true) ∧
      (nV ((((f || est.isNone) || (oMul a e1).isNone || (oAdd m (nV (f || est.isNone) (oMul a e1))).isNone) || esd.isNone) || (oMul a d1).isNone) (oAdd d (nV (((f || est.isNone) || (oMul a e1).isNone || (oAdd m (nV (f || est.isNone) (oMul a e1))).isNone) || esd.isNone) (oMul a d1))) = oAdd D (oMul W esd) ∧
       (nV ((((f || est.isNone) || (oMul a e1).isNone || (oAdd m (nV (f || est.isNone) (oMul a e1))).isNone) || esd.isNone) || (oMul a d1).isNone) (oAdd d (nV (((f || est.isNone) || (oMul a e1).isNone || (oAdd m (nV (f || est.isNone) (oMul a e1))).isNone) || esd.isNone) (oMul a d1)))).isSome = true)) ∧
    ((((((f || est.isNone) || (oMul a e1).isNone || (oAdd m (nV (f || est.isNone) (oMul a e1))).isNone) || esd.isNone) || (oMul a d1).isNone) || (oAdd d (nV (((f || est.isNone) || (oMul a e1).isNone || (oAdd m (nV (f || est.isNone) (oMul a e1))).isNone) || esd.isNone) (oMul a d1))).isNone) = true →
      f = true ∨ oAdd E (oMul W est) = none ∨ oAdd D (oMul W esd) = none) := by
  cases f with
  | true => exact ⟨fun h => by simp at h, fun _ => .inl rfl⟩
  | false =>
    obtain ⟨⟨rfl, ha⟩, ⟨rfl, hm⟩, ⟨rfl, hd⟩⟩ := hf rfl
    cases est with
    | none => exact ⟨fun h => by simp at h, fun _ => .inr (.inl (by rw [show oMul a none = none from oBin_n2 a]; exact oBin_n2 m))⟩
    | some x =>
      obtain rfl := h1 (by simp)
      obtain ⟨p, hp⟩ : ∃ p, oMul a (some x) = p := ⟨_, rfl⟩
      simp only [hp, Option.isNone_some, Bool.or_false, Bool.false_or, nV, Bool.false_eq_true, if_false] at h4 ⊢
      cases p with
      | none => exact ⟨fun h => by simp at h, fun _ => .inr (.inl (oBin_n2 m))⟩
      | some x1 =>
        obtain ⟨q, hq⟩ : ∃ q, oAdd m (some x1) = q := ⟨_, rfl⟩
        simp only [hq, Option.isNone_some, Bool.or_false, Bool.false_or, Bool.false_eq_true, if_false] at h4 ⊢
        cases q with
        | none => exact ⟨fun h => by simp at h, fun _ => .inr (.inl rfl)⟩
        | some x2 =>
          simp only [Option.isNone_some, Bool.or_false, Bool.false_or, Bool.false_eq_true, if_false] at h4 ⊢
          cases esd with
          | none => exact ⟨fun h => by simp at h, fun _ => .inr (.inr (by rw [show oMul a none = none from oBin_n2 a]; exact oBin_n2 d))⟩
          | some y =>
            obtain rfl := h4 (by simp)
            obtain ⟨p2, hp2⟩ : ∃ p, oMul a (some y) = p := ⟨_, rfl⟩
            simp only [hp2, Option.isNone_some, Bool.or_false, Bool.false_or, Bool.false_eq_true, if_false]
            cases p2 with
            | none => exact ⟨fun h => by simp at h, fun _ => .inr (.inr (oBin_n2 d))⟩
            | some y1 =>
              obtain ⟨q2, hq2⟩ : ∃ q, oAdd d (some y1) = q := ⟨_, rfl⟩
              simp only [hq2, Option.isNone_some, Bool.or_false, Bool.false_or, Bool.false_eq_true, if_false]
              cases q2 with
              | none => exact ⟨fun h => by simp at h, fun _ => .inr (.inr rfl)⟩
              | some y2 => exact ⟨fun _ => by simp, fun h => by simp at h⟩
theorem Hp.xn2 {S : List Nat} {w0 w w' : World} {L : List Et} (h : Hp S w0 w L) (x : Ext w w') {a b : Nat} {ta tb : TypeId} {ca cb : List Value} (ha : Blk w' a ta ca) (hb : Blk w' b tb cb) (wa : w.heap.size ≤ a) (wb : w.heap.size ≤ b) (ne : a ≠ b) : Hp S w0 w' (bx a ta ca :: bx b tb cb :: L) := by
  have h1 := h.xn x (bx_at hb) (fun k hk => by simp at hk; subst hk; exact ⟨wb, hb.lt⟩)
  refine h1.nw (bx_at ha) (fun k hk => by simp at hk; subst hk; exact ⟨ha.lt, .inl (Nat.le_trans h.mo.size wa)⟩) fun y hy k hk hc => ?_
  simp at hk
  subst hk
  rcases List.mem_cons.1 hy with rfl | hy
  · simp at hc; exact ne hc
  · have := (h.ks y hy k hc).1; omega
theorem mkC {α : Type} {w0 w : World} {g gl gc N : Nat} {v : Value} {l : List El} {BAD : Prop} {B : Value → Value → World → (World → Prop) → (Exit → World → Prop) → Prop} {After Ret : Nat → World → Prop}
    (Lf : Bool → α → List Et) (Φ : Nat → Bool → α → Prop) (i0 : Nat) (KS : List Nat) {f0 : Bool} {x0 : α}
    (hN : 2 ^ l.length = N) (h10 : l.length ≤ 10) (hok : ∀ e ∈ l, El.ok e) (hg : GB g) (ngl : gl ∉ [g]) (ngc : gc ∉ [g]) (nv : NoB v [g]) (hBAD : ∀ k, k < N → oW k l (some 1) = none → BAD)
    (hi : ∀ f a, (Lf f a)[i0]? = some (bx g tC [.bool f])) (hset : ∀ f f' a, (Lf f a).set i0 (bx g tC [.bool f']) = Lf f' a) (hks : ∀ f a, (Lf f a).flatMap Et.ks = KS)
    (hCI : ∀ f x W, Hp [] w0 W (Lf f x) → w.heap.size ≤ W.heap.size → CI g gl gc v l w.heap.size W)
    (hΦ : ∀ k f a, Φ k f a → BAD → Φ k true a) (h0 : Hp [] w0 w (Lf f0 x0)) (hΦ0 : Φ 0 f0 x0)
    (hB : ∀ (a : Option Rat) (y : Value) (f : Bool) (x : α) (k : Nat) (W : World), k < N → OB a → (f = false → a = oW k l (some 1) ∧ a.isSome = true) → Φ k f x → w.heap.size ≤ W.heap.size → (∀ b, y.ownBlock = some b → b ≠ g) →
      Hp [] w0 W (frE w.heap.size W :: sq 4 y (kept k l).length ((kept k l).flatMap fE) :: Lf f x) →
      B (ov a) y W (fun W' => (∃ f' x', Hp [] w0 W' (Lf f' x') ∧ w.heap.size ≤ W'.heap.size ∧ Φ (k + 1) f' x') ∧ Kf w.heap.size W W') (fun e W' => False ∧ Kf w.heap.size W W'))
    (hA : ∀ (D : Nat) (W : World) (f : Bool) (x : α), Hp [] w0 W (dfE D :: Lf f x) → Φ N f x → After D W) :
    Rf2 Tryz.prog (.func (.func 75) #[] #[pr gl 0, pr gc 0]) w B After Ret [] := by
  have hkb : ∀ k ∈ KS, k < w.heap.size := fun k hk => h0.ksz k (by rw [hks]; exact hk)
  have hw := h0.size
  have hgw : g < w.heap.size := h0.lt i0 (hi _ _)
  refine Rf2.mkG _ _ N (Yc g l w.heap.size) (Rc' g BAD) (fun k W => ∃ f x, Hp [] w0 W (Lf f x) ∧ w.heap.size ≤ W.heap.size ∧ Φ k f x) rfl n_estimate_calculator_choices_1
    (fun i vs W ⟨a, y, f, e, _⟩ => by rw [e]; rfl)
    (it_choices hN h10 hok hg ngl ngc nv (fun i W ⟨f, x, h, hs, _⟩ => hCI f x W h hs) hBAD)
    ⟨fun i W W' ⟨f, x, h, hs, hp⟩ b => ⟨f, x, h.bk (by rw [hks]; exact hkb) hw b, Nat.le_trans hs b.size, hp⟩, fun _ _ _ h _ => h, ?_, ?_, fun _ _ _ h _ => h, ?_⟩
    ⟨f0, x0, h0, Nat.le_refl _, hΦ0⟩ ?_ ?_
  · rintro i vs W W' ⟨a, y, f, e, oa, sl, hy, hf, ha⟩ b
    refine ⟨a, y, f, e, oa, sl.bk b, fun k hk => ?_, hf.bk b, ha⟩
    obtain ⟨h1, h2, h3, h4⟩ := hy k hk
    refine ⟨h1, h2, Nat.lt_of_lt_of_le h3 b.size, ?_⟩
    rcases b.block k h3 with h5 | ⟨_, r, r', h5, _⟩
    · rw [h5]; exact h4
    · rw [h5] at h4; cases h4
  · rintro i W W' ⟨f, x, h, hs, hp⟩ ⟨m, hf⟩
    obtain ⟨f', h1, h2⟩ := hf f (h.get (hi f x))
    have h3 := h.up (hi f x) m (bx_at h1) (fun _ hk => .inl hk)
    rw [hset] at h3
    refine ⟨f', x, h3, Nat.le_trans hs m.size, ?_⟩
    rcases h2 with rfl | ⟨rfl, hb⟩
    · exact hp
    · exact hΦ i f x hp hb
  · rintro W W' ⟨m, _⟩
    exact ⟨m.size, fun k hk hl _ => m.block k hl (by simp; omega)⟩
  · rintro a0 a1 i W hi' ⟨a, y, f, e, oa, sl, hy, hf, ha⟩ ⟨f1, x, h, hs, hp⟩ _
    cases e
    obtain rfl := Blk.one hf (h.get (hi f1 x))
    have hyk : ∀ k ∈ (sq 4 a1 (kept i l).length ((kept i l).flatMap fE)).ks, a1.ownBlock = some k := fun k hk => by simpa using hk
    have h1 : Hp [] w0 W (sq 4 a1 (kept i l).length ((kept i l).flatMap fE) :: Lf f x) := h.nw (sq_at sl) (fun k hk => by
      obtain ⟨h1, h2, h3, h4⟩ := hy k (hyk k hk)
      exact ⟨h3, .inl (by omega)⟩) fun z hz k hk hc => by
        have h5 := (hy k (hyk k hk)).1
        have h6 := hkb k (by rw [← hks f x]; exact List.mem_flatMap.2 ⟨z, hz, hc⟩)
        omega
    have h2 := h1.fr w.heap.size hw (fun k hk => by
      rw [List.flatMap_cons, hks] at hk
      rcases List.mem_append.1 hk with hk | hk
      · exact .inr (hy k (hyk k hk)).2.2.2
      · exact .inl (hkb k hk))
    exact hB a a1 f x i W hi' oa ha hp hs (fun b hb => (hy b hb).2.1) h2
  · rintro D W hD hd ⟨f, x, h, hs, hp⟩
    refine hA D W f x (h.df hd (by omega) (fun hc => ?_)) hp
    rw [hks] at hc
    have := hkb D hc
    omega
theorem exp_d {f : Bool} {e1 est m : Option Rat} (h1 : (f || est.isNone) = false → e1 = est) :
    (((f || est.isNone) || (oSub e1 m).isNone) = false → f = false ∧ nV (f || est.isNone) (oSub e1 m) = oSub est m ∧ (nV (f || est.isNone) (oSub e1 m)).isSome = true) ∧
    (((f || est.isNone) || (oSub e1 m).isNone) = true → f = true ∨ oSub est m = none) := by
  cases f with
  | true => exact ⟨fun h => by simp at h, fun _ => .inl rfl⟩
  | false =>
    cases est with
    | none => exact ⟨fun h => by simp at h, fun _ => .inr rfl⟩
    | some x =>
      obtain rfl := h1 (by simp)
      simp only [Option.isNone_some, Bool.or_false, Bool.false_or, nV, Bool.false_eq_true, if_false]
      cases hp : oSub (some x) m with
      | none => exact ⟨fun h => by simp at h, fun _ => .inr rfl⟩
      | some y => exact ⟨fun _ => by simp, fun h => by simp at h⟩
theorem exp_v {f F : Bool} {a vv dv W V S : Option Rat} (hF : F = false → f = false ∧ dv = S ∧ dv.isSome = true) (hF' : F = true → f = true ∨ S = none) (hf : f = false → (a = W ∧ a.isSome = true) ∧ (vv = V ∧ vv.isSome = true)) :
    ((((F || (oMul dv dv).isNone) || (oMul a (nV F (oMul dv dv))).isNone) || (oAdd vv (nV (F || (oMul dv dv).isNone) (oMul a (nV F (oMul dv dv))))).isNone) = false →
      f = false ∧ nV ((F || (oMul dv dv).isNone) || (oMul a (nV F (oMul dv dv))).isNone) (oAdd vv (nV (F || (oMul dv dv).isNone) (oMul a (nV F (oMul dv dv))))) = oAdd V (oMul W (oMul S S)) ∧ (nV ((F || (oMul dv dv).isNone) || (oMul a (nV F (oMul dv dv))).isNone) (oAdd vv (nV (F || (oMul dv dv).isNone) (oMul a (nV F (oMul dv dv)))))).isSome = true) ∧
    ((((F || (oMul dv dv).isNone) || (oMul a (nV F (oMul dv dv))).isNone) || (oAdd vv (nV (F || (oMul dv dv).isNone) (oMul a (nV F (oMul dv dv))))).isNone) = true → f = true ∨ oAdd V (oMul W (oMul S S)) = none) := by
  have n2 : ∀ {o : Option Rat}, oMul o none = none := fun {o} => oBin_n2 o
  have a2 : ∀ {o : Option Rat}, oAdd o none = none := fun {o} => oBin_n2 o
  cases F with
  | true =>
    refine ⟨fun h => by simp at h, fun _ => ?_⟩
    rcases hF' rfl with h | h
    · exact .inl h
    · exact .inr (by rw [h, n2, n2, a2])
  | false =>
    obtain ⟨rfl, rfl, hd⟩ := hF rfl
    obtain ⟨⟨rfl, _⟩, ⟨rfl, _⟩⟩ := hf rfl
    simp only [Option.isNone_some, Bool.or_false, Bool.false_or, nV, Bool.false_eq_true, if_false]
    cases hp : oMul dv dv with
    | none => exact ⟨fun h => by simp at h, fun _ => .inr (by rw [n2, a2])⟩
    | some x =>
      simp only [Option.isNone_some, Bool.or_false, Bool.false_or, Bool.false_eq_true, if_false]
      cases hq : oMul a (some x) with
      | none => exact ⟨fun h => by simp at h, fun _ => .inr a2⟩
      | some y =>
        simp only [Option.isNone_some, Bool.or_false, Bool.false_or, Bool.false_eq_true, if_false]
        cases hr : oAdd vv (some y) with
        | none => exact ⟨fun h => by simp at h, fun _ => .inr rfl⟩
        | some z => exact ⟨fun _ => by simp, fun h => by simp at h⟩
theorem zero_fO : fO (some 0) = [str [48], str [49]] := by
  have := zero_ov
  simp only [ov, Value.agg.injEq] at this
  exact Array.toList_inj.2 this
section
variable {w0 w : World} {L : List Et} {g : Nat} {f : Bool} {l : List El} {y : Value}
theorem s_est (h : Hp [] w0 w L) (he : En w0) (i j : Nat) (hi : L[i]? = some (bx g tC [.bool f])) (hj : L[j]? = some (sq 4 y l.length (l.flatMap fE))) (hl : l.length ≤ 100000) (hok : ∀ e ∈ l, El.ok e) (hy : ∀ b, y.ownBlock = some b → b ≠ g) :
    Calls Tryz.prog 32 #[pt g, y] w (Ret fun r w' => ∃ a, OB a ∧ r = ov a ∧ Own g w w' ∧ Blk w' g tC [.bool (f || (oEst l).isNone)] ∧ ((f || (oEst l).isNone) = false → a = oEst l)) := by
  have hs := h.get hj
  rw [cellsE_flat] at hs
  exact k_estimate tLs_u hl hok hy (.of he.hz he.hT (ge0 h hi)) (h.get hi) (he.hT.ext h.ext) (he.hz.ext h.ext) hs
theorem s_esd (h : Hp [] w0 w L) (he : En w0) (i j : Nat) (hi : L[i]? = some (bx g tC [.bool f])) (hj : L[j]? = some (sq 4 y l.length (l.flatMap fE))) (hl : l.length ≤ 100000) (hok : ∀ e ∈ l, El.ok e) (hy : ∀ b, y.ownBlock = some b → b ≠ g) :
    Calls Tryz.prog 33 #[pt g, y] w (Ret fun r w' => ∃ a, OB a ∧ r = ov a ∧ Own g w w' ∧ Blk w' g tC [.bool (f || (oEsd l).isNone)] ∧ ((f || (oEsd l).isNone) = false → a = oEsd l)) := by
  have hs := h.get hj
  rw [cellsE_flat] at hs
  exact k_estimated tLs_u hl hok hy (.of he.hz he.hT (ge0 h hi)) (h.get hi) (he.hT.ext h.ext) (he.hz.ext h.ext) hs
end
theorem exp_n1 {l : List El} {N : Nat} (hN : 2 ^ l.length = N) (h : oExpE l N = none) : expL l = none := by
  unfold expL; rw [hN, h]; split <;> rfl
theorem exp_n2 {l : List El} {N : Nat} (hN : 2 ^ l.length = N) (h : oExpD l N = none) : expL l = none := by
  unfold expL; rw [hN, h]
  split
  · cases oExpE l N with
    | none => rfl
    | some m => cases h3 : oExpV l (some m) N <;> simp [h3]
  · rfl
theorem ro_cells {w : World} {e : TypeId} {c n : Nat} {v : Value} {xs : List Value} (h : w.ownsRow 0 e c v n xs) : v.cells = #[v] := by
  obtain ⟨_, ⟨rfl, _⟩ | ⟨g, cap, cur, rfl, _⟩⟩ := h <;> rfl
set_option maxHeartbeats 4000000 in
theorem c_Expect {w0 : World} {vx vp : Value} {lx lp : List RS} (hx : SlR w0 vx lx) (hp : SlR w0 vp lp) (kx : RSok lx) (kp : RSok lp) (he : En w0) :
    Calls Tryz.prog 18 #[vx, vp] w0 (Ret fun r w' => Ext w0 w' ∧ r = expV (expO lx lp)) := by
  apply e_estimate_Expect
  unfold s_estimate_Expect
  have h := Hp.init [] w0
  have z0 := he.hz.1
  refine alS h fun g1 w h => ?_
  refine alS h fun g2 w h => ?_
  refine alS h fun g3 w h => ?_
  refine clEl h (c_elements (hx.ext h.ext) (hp.ext h.ext) kx kp (he.hz.ext h.ext) (he.hT.ext h.ext)) (fun l v w hE hg hl h => ?_) (fun w hE h => ?_)
  rotate_left
  · refine Ex2 ?_
    refine Un_F ?_
    iterate 3 refine Gd_TF ?_
    refine Pick_T ?_
    refine If_T ?_
    iterate 3 refine bdS PC.nil (by rfl) ?_
    refine stA h 3 rfl rfl rfl rfl fun w h => ?_
    refine stA h 2 rfl rfl rfl rfl fun w h => ?_
    refine stA h 1 rfl rfl rfl rfl fun w h => ?_
    refine rcA h 3 rfl rfl ?_
    refine rcA h 2 rfl rfl ?_
    refine rcA h 1 rfl rfl ?_
    dsimp only [List.set] at h
    exact Ret.mk ⟨h.ext, by rw [exp_n hE]; rfl⟩
  have ht := exp_s hE
  by_cases h10 : l.length ≤ 10
  rotate_left
  · refine Ex2 ?_
    refine Un_T ?_
    iterate 2 refine Gd_F ?_
    refine leS (h.sl (i := 0) rfl) ?_
    refine Gd_F ?_
    refine Bn_gtT (by omega) ?_
    refine Pick_F ?_
    refine If_T ?_
    iterate 3 refine bdS PC.nil (by rfl) ?_
    refine stA h 3 rfl rfl rfl rfl fun w h => ?_
    refine stA h 2 rfl rfl rfl rfl fun w h => ?_
    refine stA h 1 rfl rfl rfl rfl fun w h => ?_
    refine rcA h 3 rfl rfl ?_
    refine rcA h 2 rfl rfl ?_
    refine rcA h 1 rfl rfl ?_
    dsimp only [List.set] at h
    exact Ret.mk ⟨h.ext, by rw [ht]; unfold expL; rw [if_neg h10]; rfl⟩
  have hok := fun e he => (hg e he).1
  have hvc := ro_cells (h.get (i := 0) rfl)
  refine Exists.elim (p := fun N => 2 ^ l.length = N) ⟨_, rfl⟩ fun N hN => ?_
  refine Ex2 ?_
  refine Un_T ?_
  iterate 2 refine Gd_F ?_
  refine leS (h.sl (i := 0) rfl) ?_
  refine Gd_F ?_
  refine Bn_gtF (by omega) ?_
  refine Pick_F ?_
  refine If_F ?_
  refine alS h fun g4 w h => ?_
  refine Jn3.mk fun K hK => ?_
  have main : ∀ b1 b2 b3 w, Hp [] w0 w [bx b1 tR [str [48], str [49]], bx b2 tR [str [48], str [49]], bx b3 tR [str [48], str [49]], bx g4 tC [.bool false], ro tEl 4 v l.length (l.flatMap fE), bx g3 tR (fO none), bx g2 tR (fO none), bx g1 tR (fO none)] → K (pr b1 0) (pr b2 0) (pr b3 0) w := by
    clear h
    intro b1 b2 b3 w h
    refine hK _ _ _ _ ?_
    clear hK
    rw [← zero_fO] at h
    have hgb := GB.of he.hz he.hT (ge0 h (i := 3) rfl)
    have nv : NoB v [g4] := fun k hk hc => ro_ne h (i := 3) (j := 4) rfl rfl (by decide) k hk (by simpa using hc)
    have hg4 := h.lt 3 rfl
    have hkok : ∀ k, ∀ e ∈ kept k l, El.ok e := fun k e he => hok e (kept_sub l k e he)
    have hkl : ∀ k, (kept k l).length ≤ 100000 := fun k => Nat.le_trans (kept_len l k) (by omega)
    refine Cl_i n_estimate_calculator_choices (c_choices hvc) ?_
    rintro _ w' ⟨x, gl, gc, rfl, hgl, hgc, s1, s2, nlc⟩
    have h := Hp.xn2 h x hgl hgc s1 s2 nlc
    have ngl : gl ∉ [g4] := by simp; omega
    have ngc : gc ∉ [g4] := by simp; omega
    refine mkC (BAD := oExpE l N = none ∨ oExpD l N = none)
      (fun f (x : Option Rat × Option Rat) => [bx gl tLs [v], bx gc tCp [pt g4], bx b1 tR (fO x.1), bx b2 tR (fO x.2), bx b3 tR (fO (some 0)), bx g4 tC [.bool f], ro tEl 4 v l.length (l.flatMap fE), bx g3 tR (fO none), bx g2 tR (fO none), bx g1 tR (fO none)])
      (fun k f x => OB x.1 ∧ OB x.2 ∧ (f = false → (x.1 = oExpE l k ∧ x.1.isSome = true) ∧ (x.2 = oExpD l k ∧ x.2.isSome = true)) ∧ (f = true → oExpE l N = none ∨ oExpD l N = none))
      5 (gl :: gc :: b1 :: b2 :: b3 :: g4 :: (v.ownBlock.toList ++ [g3, g2, g1])) (f0 := false) (x0 := (some 0, some 0)) hN h10 hok hgb ngl ngc nv (fun k hk hw => .inl (oSumN_none (by rw [hw]; rfl) hk)) (fun _ _ => rfl) (fun _ _ _ => rfl) (fun _ _ => rfl)
      (fun f x W h hs => ⟨hs, h.get (i := 0) rfl, h.get (i := 1) rfl, ⟨f, h.get (i := 5) rfl⟩, h.sl (i := 6) rfl, he.ext h.ext⟩)
      (fun k f x hp hb => ⟨hp.1, hp.2.1, fun e => (by cases e), fun _ => hb⟩) h ⟨.some rb0, .some rb0, fun _ => ⟨⟨rfl, rfl⟩, ⟨rfl, rfl⟩⟩, fun e => (by cases e)⟩ ?_ ?_
    · rintro a y f ⟨m, d⟩ k W hk oa ha ⟨om, od, hf, hbad⟩ hBW hyg h
      simp only at om od hf hbad h
      refine midA h (by rfl) (by rfl) (by rfl) (by rfl) fun g5 w h => ?_
      replace h := h.dr
      refine dlA h 5 rfl rfl ?_
      refine dlA h 0 rfl rfl ?_
      refine clF h 8 rfl n_estimate_calculator_estimate (s_est h he 8 2 rfl rfl (hkl k) (hkok k) hyg) rfl fun e1 w oe h1 h => ?_
      refine klA h 5 rfl rfl ?_
      refine klA h 0 rfl rfl ?_
      dsimp only [List.set] at h
      refine clC h 8 rfl n_estimate_calculator_mul (fun b => k_mul (o := a) (p := e1) b oa oe (he.hT.ext h.ext)) fun w h => ?_
      refine klA h 5 rfl rfl ?_
      dsimp only [List.set] at h
      refine clC h 8 rfl n_estimate_calculator_add (fun b => k_add (o := m) (p := nV (f || (oEst (kept k l)).isNone) (oMul a e1)) b om (nV_B (oBin_B fit_mul _ _)) (he.hT.ext h.ext)) fun w h => ?_
      refine stA h 5 rfl rfl rfl rfl fun w h => ?_
      replace h := h.dr
      refine dlA h 6 rfl rfl ?_
      refine dlA h 0 rfl rfl ?_
      dsimp only [List.set] at h
      refine clF h 8 rfl n_estimate_calculator_estimated (s_esd h he 8 2 rfl rfl (hkl k) (hkok k) hyg) rfl fun d1 w od1 h4 h => ?_
      refine klA h 6 rfl rfl ?_
      refine klA h 0 rfl rfl ?_
      dsimp only [List.set] at h
      refine clC h 8 rfl n_estimate_calculator_mul (fun b => k_mul (o := a) (p := d1) b oa od1 (he.hT.ext h.ext)) fun w h => ?_
      refine klA h 6 rfl rfl ?_
      dsimp only [List.set] at h
      refine clC h 8 rfl n_estimate_calculator_add (fun b => k_add (o := d) (p := nV _ (oMul a d1)) b od (nV_B (oBin_B fit_mul _ _)) (he.hT.ext h.ext)) fun w h => ?_
      refine stA h 6 rfl rfl rfl rfl fun w h => ?_
      dsimp only [List.set] at h
      have st := exp_step (W := oW k l (some 1)) (E := oExpE l k) (D := oExpD l k) (fun e => ⟨ha e, (hf e).1, (hf e).2⟩) h1 h4
      have kf : Kf w'.heap.size W w := h.get (i := 1) rfl
      exact ⟨⟨_, (_, _), h.drop 3, Nat.le_trans hBW kf.size, nV_B (oBin_B fit_add _ _), nV_B (oBin_B fit_add _ _), st.1, fun e => by
        rcases st.2 e with h5 | h5 | h5
        · exact hbad h5
        · exact .inl (oSumN_mono (k := k + 1) h5 (by omega))
        · exact .inr (oSumN_mono (k := k + 1) h5 (by omega))⟩, kf⟩
    clear h
    rintro D1 W f1 ⟨m, d⟩ h ⟨om, od, hf1, hbad1⟩
    simp only at om od hf1 hbad1 h
    have hg4 := h.lt 6 rfl
    refine Cl_i n_estimate_calculator_choices (c_choices hvc) ?_
    rintro _ w2 ⟨x2, gl2, gc2, rfl, hgl2, hgc2, s12, s22, nlc2⟩
    have h := Hp.xn2 h x2 hgl2 hgc2 s12 s22 nlc2
    have ngl2 : gl2 ∉ [g4] := by simp; omega
    have ngc2 : gc2 ∉ [g4] := by simp; omega
    refine mkC (BAD := f1 = true ∨ oExpV l m N = none)
      (fun f (x : Option Rat) => [bx gl2 tLs [v], bx gc2 tCp [pt g4], dfE D1, bx gl tLs [v], bx gc tCp [pt g4], bx b1 tR (fO m), bx b2 tR (fO d), bx b3 tR (fO x), bx g4 tC [.bool f], ro tEl 4 v l.length (l.flatMap fE), bx g3 tR (fO none), bx g2 tR (fO none), bx g1 tR (fO none)])
      (fun k f x => OB x ∧ (f = false → f1 = false ∧ (x = oExpV l m k ∧ x.isSome = true)) ∧ (f = true → f1 = true ∨ oExpV l m N = none))
      8 (gl2 :: gc2 :: D1 :: gl :: gc :: b1 :: b2 :: b3 :: g4 :: (v.ownBlock.toList ++ [g3, g2, g1])) (f0 := f1) (x0 := some 0) hN h10 hok hgb ngl2 ngc2 nv (fun k hk hw => .inr (oSumN_none (by rw [hw]; rfl) hk)) (fun _ _ => rfl) (fun _ _ _ => rfl) (fun _ _ => rfl)
      (fun f x W h hs => ⟨hs, h.get (i := 0) rfl, h.get (i := 1) rfl, ⟨f, h.get (i := 8) rfl⟩, h.sl (i := 9) rfl, he.ext h.ext⟩)
      (fun k f x hp hb => ⟨hp.1, fun e => (by cases e), fun _ => hb⟩) h ⟨.some rb0, fun e => ⟨e, rfl, rfl⟩, fun e => .inl e⟩ ?_ ?_
    · rintro a y f vv k W hk oa ha ⟨ov', hf, hbad⟩ hBW hyg h
      refine midA h (by rfl) (by rfl) (by rfl) (by rfl) fun g5 w h => ?_
      refine Jn1.mk fun K2 hK2 => ?_
      have main2 : ∀ (gd : Nat) (F : Bool) (dv : Option Rat) (w : World), Hp [] w0 w [bx gd tR (fO dv), bx g5 tR (fO a), frE w2.heap.size W, sq 4 y (kept k l).length ((kept k l).flatMap fE), bx gl2 tLs [v], bx gc2 tCp [pt g4], dfE D1, bx gl tLs [v], bx gc tCp [pt g4], bx b1 tR (fO m), bx b2 tR (fO d), bx b3 tR (fO vv), bx g4 tC [.bool F], ro tEl 4 v l.length (l.flatMap fE), bx g3 tR (fO none), bx g2 tR (fO none), bx g1 tR (fO none)] → OB dv →
          (F = false → f = false ∧ dv = oSub (oEst (kept k l)) m ∧ dv.isSome = true) → (F = true → f = true ∨ oSub (oEst (kept k l)) m = none) → K2 (pr gd 0) w := by
        clear h
        intro gd F dv w h odv hF hF'
        refine hK2 _ _ ?_
        clear hK2
        replace h := h.dr
        refine dlA h 11 rfl rfl ?_
        refine dlA h 1 rfl rfl ?_
        iterate 2 refine dlA h 0 rfl rfl ?_
        refine clC h 12 rfl n_estimate_calculator_mul (fun b => k_mul (o := dv) (p := dv) b odv odv (he.hT.ext h.ext)) fun w h => ?_
        refine klA h 11 rfl rfl ?_
        refine klA h 1 rfl rfl ?_
        dsimp only [List.set] at h
        refine clC h 12 rfl n_estimate_calculator_mul (fun b => k_mul (o := a) (p := nV F (oMul dv dv)) b oa (nV_B (oBin_B fit_mul _ _)) (he.hT.ext h.ext)) fun w h => ?_
        refine klA h 11 rfl rfl ?_
        dsimp only [List.set] at h
        refine clC h 12 rfl n_estimate_calculator_add (fun b => k_add (o := vv) (p := nV _ (oMul a (nV F (oMul dv dv)))) b ov' (nV_B (oBin_B fit_mul _ _)) (he.hT.ext h.ext)) fun w h => ?_
        refine stA h 11 rfl rfl rfl rfl fun w h => ?_
        dsimp only [List.set] at h
        have st := exp_v (W := oW k l (some 1)) (V := oExpV l m k) (S := oSub (oEst (kept k l)) m) hF hF' (fun e => ⟨ha e, (hf e).2⟩)
        have kf : Kf w2.heap.size W w := h.get (i := 2) rfl
        exact ⟨⟨_, _, h.drop 4, Nat.le_trans hBW kf.size, nV_B (oBin_B fit_add _ _), fun e => ⟨(hf (st.1 e).1).1, (st.1 e).2⟩, fun e => by
          rcases st.2 e with h5 | h5
          · exact hbad h5
          · exact .inr (oSumN_mono (k := k + 1) h5 (by omega))⟩, kf⟩
      clear hK2
      replace h := h.dr
      refine dlA h 8 rfl rfl ?_
      refine ⟨?_, ?_⟩
      refine clF h 11 rfl n_estimate_calculator_estimate (s_est h he 11 2 rfl rfl (hkl k) (hkok k) hyg) rfl fun e1 w oe h1 h => ?_
      refine klA h 8 rfl rfl ?_
      refine ⟨?_, ?_⟩
      dsimp only [List.set] at h
      refine clC h 11 rfl n_estimate_calculator_sub (fun b => k_sub (o := e1) (p := m) b oe om (he.hT.ext h.ext)) fun w h => ?_
      refine alS h fun g6 w h => ?_
      refine klA h 9 rfl rfl ?_
      refine stA h 0 rfl rfl rfl rfl fun w h => ?_
      dsimp only [List.set] at h
      exact main2 _ _ _ _ h (nV_B (oBin_B fit_sub _ _)) (exp_d h1).1 (exp_d h1).2
      refine alS h fun g6 w h => ?_
      refine klA h 9 rfl rfl ?_
      dsimp only [List.set] at h
      refine clC h 12 rfl n_estimate_calculator_sub (fun b => k_sub (o := e1) (p := m) b oe om (he.hT.ext h.ext)) fun w h => ?_
      refine stA h 0 rfl rfl rfl rfl fun w h => ?_
      dsimp only [List.set] at h
      exact main2 _ _ _ _ h (nV_B (oBin_B fit_sub _ _)) (exp_d h1).1 (exp_d h1).2
      refine alS h fun g6 w h => ?_
      refine klA h 9 rfl rfl ?_
      refine clF h 12 rfl n_estimate_calculator_estimate (s_est h he 12 3 rfl rfl (hkl k) (hkok k) hyg) rfl fun e1 w oe h1 h => ?_
      refine klA h 9 rfl rfl ?_
      dsimp only [List.set] at h
      refine clC h 12 rfl n_estimate_calculator_sub (fun b => k_sub (o := e1) (p := m) b oe om (he.hT.ext h.ext)) fun w h => ?_
      refine stA h 0 rfl rfl rfl rfl fun w h => ?_
      dsimp only [List.set] at h
      exact main2 _ _ _ _ h (nV_B (oBin_B fit_sub _ _)) (exp_d h1).1 (exp_d h1).2
    clear h
    rintro D2 W f vv h ⟨ov', hf, hbad⟩
    rcases f with _ | _
    · obtain ⟨rfl, hv1, hv2⟩ := hf rfl
      obtain ⟨⟨hm1, hm2⟩, ⟨hd1, hd2⟩⟩ := hf1 rfl
      rcases m with _ | m
      · cases hm2
      rcases d with _ | d
      · cases hd2
      rcases vv with _ | vv
      · cases hv2
      iterate 2 refine faS ?_
      refine Eng.ld1 h 9 rfl rfl ?_
      refine If_F ?_
      replace h := h.dr
      refine dlA h 6 rfl rfl ?_
      refine dlA h 8 rfl rfl ?_
      refine dlA h 7 rfl rfl ?_
      refine stA h 13 rfl rfl rfl rfl fun w h => ?_
      refine klA h 8 rfl rfl ?_
      refine klA h 7 rfl rfl ?_
      refine stA h 12 rfl rfl rfl rfl fun w h => ?_
      refine klA h 7 rfl rfl ?_
      refine stA h 11 rfl rfl rfl rfl fun w h => ?_
      refine tkE h 0 rfl fun w h => ?_
      refine tkE h 3 rfl fun w h => ?_
      refine rcA h 13 rfl rfl ?_
      refine rcA h 12 rfl rfl ?_
      refine rcA h 11 rfl rfl ?_
      dsimp only [List.set] at h
      refine Ret.mk ⟨h.ext, ?_⟩
      have : expL l = some (m, vv, d) := by
        unfold expL
        rw [if_pos h10, hN, ← hm1, ← hd1]
        show (oExpV l (some m) N).bind _ = _
        rw [← hv1]; rfl
      rw [ht, this]; rfl
    · refine faS ?_
      refine faS ?_
      refine Eng.ld1 h 9 rfl rfl ?_
      refine If_T ?_
      iterate 3 refine bdS PC.nil (by rfl) ?_
      refine stA h 13 rfl rfl rfl rfl fun w h => ?_
      refine stA h 12 rfl rfl rfl rfl fun w h => ?_
      refine stA h 11 rfl rfl rfl rfl fun w h => ?_
      refine tkE h 0 rfl fun w h => ?_
      refine tkE h 3 rfl fun w h => ?_
      refine rcA h 13 rfl rfl ?_
      refine rcA h 12 rfl rfl ?_
      refine rcA h 11 rfl rfl ?_
      dsimp only [List.set] at h
      refine Ret.mk ⟨h.ext, ?_⟩
      have : expL l = none := by
        cases f1 with
        | true =>
          rcases hbad1 rfl with h5 | h5
          · exact exp_n1 hN h5
          · exact exp_n2 hN h5
        | false =>
          have h5 : oExpV l m N = none := (hbad rfl).resolve_left (by decide)
          obtain ⟨⟨hm1, hm2⟩, _⟩ := hf1 rfl
          cases m with
          | none => cases hm2
          | some m =>
            unfold expL
            rw [if_pos h10, hN, ← hm1]
            show (oExpV l (some m) N).bind _ = _
            rw [h5]; rfl
      rw [ht, this]; rfl
  clear hK
  replace h := h.dr
  iterate 3 refine dgA h (by assumption) (by rfl) ?_
  refine ⟨?_, ?_⟩
  refine alS h fun g5 w h => ?_
  iterate 3 refine kgA h (by assumption) (by rfl) ?_
  refine ⟨?_, ?_⟩
  refine alS h fun g6 w h => ?_
  iterate 3 refine kgA h (by assumption) (by rfl) ?_
  refine alS h fun g7 w h => ?_
  iterate 3 refine kgA h (by assumption) (by rfl) ?_
  refine stA h 2 rfl rfl rfl rfl fun w h => ?_
  iterate 2 refine kgA h (by assumption) (by rfl) ?_
  refine stA h 1 rfl rfl rfl rfl fun w h => ?_
  refine kgA h (by assumption) (by rfl) ?_
  refine stA h 0 rfl rfl rfl rfl fun w h => ?_
  dsimp only [List.set] at h
  exact main _ _ _ _ (h.pick [2, 1, 0, 3, 4, 5, 6, 7] (by decide) rfl)
  refine alS h fun g6 w h => ?_
  iterate 3 refine kgA h (by assumption) (by rfl) ?_
  refine alS h fun g7 w h => ?_
  iterate 3 refine kgA h (by assumption) (by rfl) ?_
  refine stA h 2 rfl rfl rfl rfl fun w h => ?_
  iterate 2 refine kgA h (by assumption) (by rfl) ?_
  refine stA h 0 rfl rfl rfl rfl fun w h => ?_
  refine kgA h (by assumption) (by rfl) ?_
  refine stA h 1 rfl rfl rfl rfl fun w h => ?_
  dsimp only [List.set] at h
  exact main _ _ _ _ (h.pick [2, 0, 1, 3, 4, 5, 6, 7] (by decide) rfl)
  refine ⟨?_, ?_⟩
  refine alS h fun g5 w h => ?_
  iterate 3 refine kgA h (by assumption) (by rfl) ?_
  refine ⟨?_, ?_⟩
  refine alS h fun g6 w h => ?_
  iterate 3 refine kgA h (by assumption) (by rfl) ?_
  refine alS h fun g7 w h => ?_
  iterate 3 refine kgA h (by assumption) (by rfl) ?_
  refine stA h 1 rfl rfl rfl rfl fun w h => ?_
  iterate 2 refine kgA h (by assumption) (by rfl) ?_
  refine stA h 2 rfl rfl rfl rfl fun w h => ?_
  refine kgA h (by assumption) (by rfl) ?_
  refine stA h 0 rfl rfl rfl rfl fun w h => ?_
  dsimp only [List.set] at h
  exact main _ _ _ _ (h.pick [1, 2, 0, 3, 4, 5, 6, 7] (by decide) rfl)
  refine alS h fun g6 w h => ?_
  iterate 3 refine kgA h (by assumption) (by rfl) ?_
  refine alS h fun g7 w h => ?_
  iterate 3 refine kgA h (by assumption) (by rfl) ?_
  refine stA h 0 rfl rfl rfl rfl fun w h => ?_
  iterate 2 refine kgA h (by assumption) (by rfl) ?_
  refine stA h 2 rfl rfl rfl rfl fun w h => ?_
  refine kgA h (by assumption) (by rfl) ?_
  refine stA h 1 rfl rfl rfl rfl fun w h => ?_
  dsimp only [List.set] at h
  exact main _ _ _ _ (h.pick [0, 2, 1, 3, 4, 5, 6, 7] (by decide) rfl)
  refine alS h fun g5 w h => ?_
  iterate 3 refine kgA h (by assumption) (by rfl) ?_
  refine ⟨?_, ?_⟩
  refine alS h fun g6 w h => ?_
  iterate 3 refine kgA h (by assumption) (by rfl) ?_
  refine alS h fun g7 w h => ?_
  iterate 3 refine kgA h (by assumption) (by rfl) ?_
  refine stA h 1 rfl rfl rfl rfl fun w h => ?_
  iterate 2 refine kgA h (by assumption) (by rfl) ?_
  refine stA h 0 rfl rfl rfl rfl fun w h => ?_
  refine kgA h (by assumption) (by rfl) ?_
  refine stA h 2 rfl rfl rfl rfl fun w h => ?_
  dsimp only [List.set] at h
  exact main _ _ _ _ (h.pick [1, 0, 2, 3, 4, 5, 6, 7] (by decide) rfl)
  refine alS h fun g6 w h => ?_
  iterate 3 refine kgA h (by assumption) (by rfl) ?_
  refine alS h fun g7 w h => ?_
  iterate 3 refine kgA h (by assumption) (by rfl) ?_
  refine stA h 0 rfl rfl rfl rfl fun w h => ?_
  iterate 2 refine kgA h (by assumption) (by rfl) ?_
  refine stA h 1 rfl rfl rfl rfl fun w h => ?_
  refine kgA h (by assumption) (by rfl) ?_
  refine stA h 2 rfl rfl rfl rfl fun w h => ?_
  dsimp only [List.set] at h
  exact main _ _ _ _ (h.pick [0, 1, 2, 3, 4, 5, 6, 7] (by decide) rfl)
end Go.Proofs.YtnocjgmmglmfiaaGreatDoor
