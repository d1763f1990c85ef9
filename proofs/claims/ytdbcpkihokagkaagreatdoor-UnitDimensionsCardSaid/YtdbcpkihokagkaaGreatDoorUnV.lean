/-
  Contracts and plain lemmas. By an AI agent.
-/
import Derived.Test.YtdbcpkihokagkaaGreatDoorUnM
import Derived.Test.YtdbcpkihokagkaaGreatDoorPrA
import Derived.Test.YtdbcpkihokagkaaGreatDoorUnJ
set_option linter.unusedSimpArgs false
set_option linter.unusedVariables false
set_option linter.unusedSectionVars false
namespace Go.Proofs.YtdbcpkihokagkaaGreatDoor
open Go Go.Eng Go.Proofs Go.Num Go.RowKit
set_option maxRecDepth 100000
theorem spC_n (c : UInt8) (s : List UInt8) : (spC c s).length = Lib.count s [c] + 1 := by
 rw [Lib.count_one]
 induction s with
 | nil => rfl
 | cons b l ih =>
  unfold spC
  by_cases h : b = c
  ·subst h
   rw [if_pos rfl, List.count_cons_self, List.length_cons, ih]
  ·rw [if_neg h, List.count_cons_of_ne (by simpa using h), ← ih]
   rcases e : spC c l with _ | ⟨h, t⟩
   ·exact absurd e (spC_ne c l)
   ·simp
theorem c_Split {s : List UInt8} {w : World} (hs : s.length ≤ 1000000) (hM : MaxV w) : Calls Tryz.prog 67 #[str s, str [32]] w (Ret fun r w' => ∃ v, r = v ∧ Hp [] w w' [ro 9 1 v (spC 32 s).length ((spC 32 s).map str)]) := by
 obtain ⟨m, hm⟩ := hM
 have := Tryz.strings_Split ⟨s.toArray⟩ ⟨([32] : List UInt8).toArray⟩ m w (by rw [size_str]; omega) hm (by decide)
 have hc : Lib.countB ⟨s.toArray⟩ ⟨([32] : List UInt8).toArray⟩ = Lib.count s [32] := rfl
 have hsp : (Lib.splitB ⟨([32] : List UInt8).toArray⟩ 0 (Lib.count s [32]) ⟨s.toArray⟩).map Value.string = (spC 32 s).map str := by
  rw [← split_C]
  unfold Lib.split
  have e := Lib.splitB_data ⟨([32] : List UInt8).toArray⟩ 0 (Lib.count s [32]) ⟨s.toArray⟩
  have e2 : Lib.splitK [32] 0 (Lib.count s [32]) s = (Lib.splitB ⟨([32] : List UInt8).toArray⟩ 0 (Lib.count s [32]) ⟨s.toArray⟩).map (·.data.toList) := by rw [e]
  rw [e2, List.map_map]
  rfl
 rw [hc, hsp, ← spC_n] at this
 refine this.mono ?_
 rintro _ w' ⟨rfl, rfl⟩
 have hl := (spC_len 32 s).1
 refine Ret.mk ⟨_, rfl, (Hp.init [] w).row ((Ext.refl w).al _) ⟨by simp, .inr ⟨w.heap.size, _, _, rfl, Nat.le_refl _, Blk.al w _ _, Nat.le_refl _, ?_, by simp, by rw [Nat.mul_one]; exact List.take_of_length_le (by simp)⟩⟩⟩
 have : (1000001 : Nat) ≤ maxLen := by decide
 omega
theorem c_CutC {s : List UInt8} {w : World} (hs : s.length ≤ 1000000) (hM : MaxV w) : Calls Tryz.prog 70 #[str s, str [94]] w (Ret fun r w' => Ext w w' ∧ r = .tuple #[str (cutC 94 s).1, str (cutC 94 s).2.1, .bool (cutC 94 s).2.2]) := by
 obtain ⟨m, hm⟩ := hM
 have := Tryz.strings_Cut ⟨s.toArray⟩ ⟨[94].toArray⟩ m w (by rw [size_str]; omega) hm
 have e : Lib.cut (⟨s.toArray⟩ : ByteArray).data.toList (⟨[94].toArray⟩ : ByteArray).data.toList = cutC 94 s := by simpa using cut_C 94 s
 rw [e] at this
 refine this.mono ?_
 rintro _ w' ⟨rfl, k, rfl⟩
 refine Ret.mk ⟨?_, rfl⟩
 induction k with
 | zero => exact .refl _
 | succ k ih => exact ih.dr
section
variable {w : World} {K : Value → World → Prop} {c : Bool}
theorem neN_f (hk : K (.bool false) w) : Bn Tryz.prog .neq 82 true .nilIface .nilIface w K := by ((try simp -dsimp [go_sem]); repeat (simp -dsimp (disch := omega) only [gL, gI]; try simp -dsimp [go_sem])); exact hk
theorem neN_t {t : TypeId} {a : Addr} (hk : K (.bool true) w) : Bn Tryz.prog .neq 82 true (.iface t (.pointer (some a))) .nilIface w K := by ((try simp -dsimp [go_sem]); repeat (simp -dsimp (disch := omega) only [gL, gI]; try simp -dsimp [go_sem])); exact hk
end
theorem ext_mo {wB w w' : World} {g : Nat} (x : Ext wB w) (m : Mo [g] w w') (hg : wB.heap.size ≤ g) : Ext wB w' :=
 ⟨m.os.trans x.os, m.tape.trans x.tape, m.output.trans x.output, Nat.le_trans x.size m.size, fun k hk => (m.block k (Nat.lt_of_lt_of_le hk x.size) (by simp; omega)).trans (x.block k hk)⟩
theorem step_n {u : U4} {s : List UInt8} (h1 : (cutC 94 s).2.2 = true) (h2 : ∀ v, Lib.atoiAll (cutC 94 s).2.1 ≠ .ok v) : stepU u s = none := by
 unfold stepU
 rw [if_pos h1]
 rcases h : Lib.atoiAll (cutC 94 s).2.1 with v | _ | _
 ·exact absurd h (h2 v)
 ·rfl
 ·rfl
theorem step_y {u : U4} {s : List UInt8} {n : Int} (h : ((cutC 94 s).2.2 = false ∧ n = 1) ∨ ((cutC 94 s).2.2 = true ∧ Lib.atoiAll (cutC 94 s).2.1 = .ok n)) :
 stepU u s = if wUs = (cutC 94 s).1 then some (n, u.2) else if wBy = (cutC 94 s).1 then some (u.1, n, u.2.2) else if wCe = (cutC 94 s).1 then some (u.1, u.2.1, n, u.2.2.2) else if wOn = (cutC 94 s).1 then some (u.1, u.2.1, u.2.2.1, n) else none := by
 unfold stepU
 rcases h with ⟨h1, rfl⟩ | ⟨h1, h2⟩
 ·rw [if_neg (by rw [h1]; decide)]
 ·rw [if_pos h1, h2]
section
variable {wB w0 : World} {g : Nat} {u : U4} {s : List UInt8} (x : Ext wB w0) (hgB : wB.heap.size ≤ g) (hM : MaxV wB) (hW : WV wB) (hE : ErrV wB) (hs : s.length ≤ 1000000) (hB : Blk w0 g tA4 (fU4 u))
include x hgB hM hW hE hs hB
theorem c_read : Calls Tryz.prog 69 #[str s, pr g 0] w0 (Ret fun r w' => Mo [g] w0 w' ∧ ((∃ u', stepU u s = some u' ∧ r = .bool true ∧ Blk w' g tA4 (fU4 u')) ∨ (stepU u s = none ∧ r = .bool false ∧ Blk w' g tA4 (fU4 u)))) := by
 have hg0 : Blk w0 0 74 [str wUs, str wBy, str wCe, str wOn] := hW.ext x
 have hgn : 0 ∉ [g] := by
  have : 0 < wB.heap.size := Blk.lt hW
  simp; omega
 have hcl := cutC_len 94 s
 have hstn := step_n (u := u) (s := s)
 have hsty := fun n => step_y (u := u) (s := s) (n := n)
 have hcut := fun W (m : Mo [g] w0 W) => c_CutC (w := W) hs (hM.ext (ext_mo x m hgB))
 have hatoi := fun W (m : Mo [g] w0 W) => c_AtoiAll (w := W) (s := (cutC 94 s).2.1) (by omega) (hE.ext (ext_mo x m hgB))
 suffices main : ∀ (R : Ending → World → Prop), (∀ w u', Mo [g] w0 w → stepU u s = some u' → Blk w g tA4 (fU4 u') → R (.returned (.bool true)) w) → (∀ w, Mo [g] w0 w → stepU u s = none → Blk w g tA4 (fU4 u) → R (.returned (.bool false)) w) → s_unit_Parse_1 Tryz.prog (str s) (pr g 0) w0 R from
  e_unit_Parse_1 (main _ (fun w u' m hu b => Ret.mk ⟨m, .inl ⟨u', hu, rfl, b⟩⟩) (fun w m hu b => Ret.mk ⟨m, .inr ⟨hu, rfl, b⟩⟩))
 intro R lt lf
 generalize (cutC 94 s).1 = nm at *
 generalize (cutC 94 s).2.1 = po at *
 generalize (cutC 94 s).2.2 = is at *
 unfold s_unit_Parse_1
 have h := (Hp.init [g] w0).nw (e := bx g tA4 (fU4 u)) (bx_at hB) (by intro k hk; simp at hk; subst hk; exact ⟨hB.lt, .inr (by simp)⟩) (by simp)
 refine cl1 h n_strings_Cut (hcut _ h.mo) fun w h => ?_
 refine Ex3 (Jn1.mk fun K hK => ?_)
 have lf1 : ∀ w n, ((is = false ∧ n = 1) ∨ (is = true ∧ Lib.atoiAll po = .ok n)) → Hp [g] w0 w [bx g tA4 (fU4 u)] → K (.int .i64 n) w := by
  clear h
  intro w n hn h
  have hst := hsty n hn
  refine hK _ _ ?_
  clear hK
  refine Lp1.mk (fun i W => Hp [g] w0 W [bx g tA4 (fU4 u)] ∧ (i = .int .i64 0 ∨ (i = .int .i64 1 ∧ (wUs == nm) = false) ∨ (i = .int .i64 2 ∧ (wUs == nm) = false ∧ (wBy == nm) = false) ∨ (i = .int .i64 3 ∧ (wUs == nm) = false ∧ (wBy == nm) = false ∧ (wCe == nm) = false) ∨ (i = .int .i64 4 ∧ (wUs == nm) = false ∧ (wBy == nm) = false ∧ (wCe == nm) = false ∧ (wOn == nm) = false)))
   (fun i _ => match i with | .int _ i' => 4 - i'.toNat | _ => 0) ⟨h, .inl rfl⟩ ?_
  clear h
  rintro _ W ⟨h, (rfl | ⟨rfl, a1⟩ | ⟨rfl, a1, a2⟩ | ⟨rfl, a1, a2, a3⟩ | ⟨rfl, a1, a2, a3, a4⟩)⟩
  ·rcases Bool.eq_false_or_eq_true (wUs == nm) with b | b
   ·rw [if_pos (beq_iff_eq.1 b)] at hst
    refine Bn_ltT (by omega) (If_T (iaZ (by decide) (by decide) ?_))
    refine lg1S h ‹_› ‹_› (by rfl) ?_
    refine Bn_eqS1 ‹_› ?_
    refine If_T (iaZ (by decide) (by decide) ?_)
    refine st1 h 0 rfl rfl rfl rfl fun w h => ?_
    dsimp only [List.set] at h
    exact lt _ _ h.mo hst (h.get (i := 0) rfl)
   ·refine Bn_ltT (by omega) (If_T (iaZ (by decide) (by decide) ?_))
    refine lg1S h ‹_› ‹_› (by rfl) ?_
    refine Bn_eqSF ‹_› ?_
    refine If_F (Bn_ad (by omega) (by omega) ?_)
    refine ⟨?_, ?_⟩
    refine ⟨?_, ?_⟩
    ·exact h
    ·exact .inr (.inl ⟨rfl, b⟩)
    ·decide
  ·rcases Bool.eq_false_or_eq_true (wBy == nm) with b | b
   ·rw [if_neg (beq_eq_false_iff_ne.1 a1), if_pos (beq_iff_eq.1 b)] at hst
    refine Bn_ltT (by omega) (If_T (iaZ (by decide) (by decide) ?_))
    refine lg1S h ‹_› ‹_› (by rfl) ?_
    refine Bn_eqS1 ‹_› ?_
    refine If_T (iaZ (by decide) (by decide) ?_)
    refine st1 h 0 rfl rfl rfl rfl fun w h => ?_
    dsimp only [List.set] at h
    exact lt _ _ h.mo hst (h.get (i := 0) rfl)
   ·refine Bn_ltT (by omega) (If_T (iaZ (by decide) (by decide) ?_))
    refine lg1S h ‹_› ‹_› (by rfl) ?_
    refine Bn_eqSF ‹_› ?_
    refine If_F (Bn_ad (by omega) (by omega) ?_)
    refine ⟨?_, ?_⟩
    refine ⟨?_, ?_⟩
    ·exact h
    ·exact .inr (.inr (.inl ⟨rfl, a1, b⟩))
    ·decide
  ·rcases Bool.eq_false_or_eq_true (wCe == nm) with b | b
   ·rw [if_neg (beq_eq_false_iff_ne.1 a1), if_neg (beq_eq_false_iff_ne.1 a2), if_pos (beq_iff_eq.1 b)] at hst
    refine Bn_ltT (by omega) (If_T (iaZ (by decide) (by decide) ?_))
    refine lg1S h ‹_› ‹_› (by rfl) ?_
    refine Bn_eqS1 ‹_› ?_
    refine If_T (iaZ (by decide) (by decide) ?_)
    refine st1 h 0 rfl rfl rfl rfl fun w h => ?_
    dsimp only [List.set] at h
    exact lt _ _ h.mo hst (h.get (i := 0) rfl)
   ·refine Bn_ltT (by omega) (If_T (iaZ (by decide) (by decide) ?_))
    refine lg1S h ‹_› ‹_› (by rfl) ?_
    refine Bn_eqSF ‹_› ?_
    refine If_F (Bn_ad (by omega) (by omega) ?_)
    refine ⟨?_, ?_⟩
    refine ⟨?_, ?_⟩
    ·exact h
    ·exact .inr (.inr (.inr (.inl ⟨rfl, a1, a2, b⟩)))
    ·decide
  ·rcases Bool.eq_false_or_eq_true (wOn == nm) with b | b
   ·rw [if_neg (beq_eq_false_iff_ne.1 a1), if_neg (beq_eq_false_iff_ne.1 a2), if_neg (beq_eq_false_iff_ne.1 a3), if_pos (beq_iff_eq.1 b)] at hst
    refine Bn_ltT (by omega) (If_T (iaZ (by decide) (by decide) ?_))
    refine lg1S h ‹_› ‹_› (by rfl) ?_
    refine Bn_eqS1 ‹_› ?_
    refine If_T (iaZ (by decide) (by decide) ?_)
    refine st1 h 0 rfl rfl rfl rfl fun w h => ?_
    dsimp only [List.set] at h
    exact lt _ _ h.mo hst (h.get (i := 0) rfl)
   ·refine Bn_ltT (by omega) (If_T (iaZ (by decide) (by decide) ?_))
    refine lg1S h ‹_› ‹_› (by rfl) ?_
    refine Bn_eqSF ‹_› ?_
    refine If_F (Bn_ad (by omega) (by omega) ?_)
    refine ⟨?_, ?_⟩
    refine ⟨?_, ?_⟩
    ·exact h
    ·exact .inr (.inr (.inr (.inr (⟨rfl, a1, a2, a3, b⟩))))
    ·decide
  ·rw [if_neg (beq_eq_false_iff_ne.1 a1), if_neg (beq_eq_false_iff_ne.1 a2), if_neg (beq_eq_false_iff_ne.1 a3), if_neg (beq_eq_false_iff_ne.1 a4)] at hst
   refine Bn_ltF (by omega) (If_F ?_)
   exact lf _ h.mo hst (h.get (i := 0) rfl)
 clear hK
 cases is
 ·refine If_F ?_
  exact lf1 _ _ (.inl ⟨rfl, rfl⟩) h
 ·refine If_T (Cl_i n_strconv_Atoi (hatoi _ h.mo) ?_)
  rintro _ W1 ⟨x1, ⟨v, hv, rfl⟩ | ⟨n, b, hv, rfl⟩⟩
  ·have h := h.x x1
   refine Ex2 (neN_f ?_)
   refine If_F ?_
   exact lf1 _ _ (.inr ⟨rfl, hv⟩) h
  ·have h := h.x x1
   refine Ex2 (neN_t ?_)
   refine If_T ?_
   exact lf _ h.mo (hstn rfl hv) (h.get (i := 0) rfl)
end
theorem Cw_c1 {w : World} {a b : Value} {f : FuncId} {pan : List PanicEntry → World → Prop} {K : Value → World → Prop} {S : Value → World → Prop} (hn : Enters Tryz.prog f) (h : Calls Tryz.prog f #[a, b] w (Ret S)) (hk : ∀ v w', S v w' → K v w') : Cw Tryz.prog (.func (.func f) #[] #[b]) #[a] w pan K :=
 Cw_i hn (by have e : (#[] ++ #[a] ++ #[b] : Array Value) = #[a, b] := by simp
             rw [e]; exact h) hk
theorem tk_snoc {α : Type} {l : List α} {j : Nat} {x : α} (h : l[j]? = some x) : l.take (j + 1) = l.take j ++ [x] := by
 rw [List.take_add_one, h]; rfl
theorem parQ_u {s : List UInt8} (h : parU s = none) : parQ s = none := by
 refine parQ_n fun q hv e => ?_
 subst e
 rw [(parU_pr hv).1] at h
 cases h
theorem parQ_e {s : List UInt8} {n d : List UInt8} {e : Int} (h : parseS (hdS s) = (n, d, e)) (he : e ≠ 0) : parQ s = none := by
 refine parQ_n fun q hv hq => ?_
 subst hq
 rw [(parU_pr hv).2, parse_print (valQ_okR hv).2] at h
 simp only [Prod.mk.injEq] at h
 exact he h.2.2.symm
theorem parQ_x {s : List UInt8} {q : QT} {e : Int} (h : parseS (hdS s) = (q.p.1, q.p.2, e)) (hu : parU s = some q.u) (hp : prQ q ≠ s) : parQ s = none := by
 refine parQ_n fun q' hv hq => ?_
 subst hq
 rw [(parU_pr hv).2, parse_print (valQ_okR hv).2] at h
 rw [(parU_pr hv).1] at hu
 simp only [Prod.mk.injEq] at h
 refine hp ?_
 rw [QT_ext (Prod.ext h.1.symm h.2.1.symm) (Option.some.inj hu).symm]
theorem parQ_ok {s : List UInt8} {q : QT} (hp : prQ q = s) (hs : s ≠ []) : parQ s = some q := by
 have hv : (valQ q).isSome = true := by
  rcases h : (valQ q).isSome with _ | _
  ·exact absurd (hp.symm.trans (prQ_n h)) hs
  ·rfl
 rw [← hp]; exact parQ_y hv
theorem parseS_e (s : List UInt8) : (parseS s).2.2 = 0 ∨ (parseS s).2.2 = 40 := by
 unfold parseS
 split
 ·exact .inl rfl
 ·exact .inr rfl
theorem parseS_len (s : List UInt8) : (parseS s).1.length ≤ s.length ∧ (parseS s).2.1.length ≤ s.length + 1 := by
 unfold parseS
 split
 ·exact ⟨numS_len s, denS_len s⟩
 ·exact ⟨Nat.zero_le _, Nat.zero_le _⟩
section
variable {w0 : World} {s : List UInt8} (hs : s.length ≤ 400000) (hT : Tab w0) (hM : MaxV w0) (hW : WV w0) (hE : ErrV w0)
include hs hT hM hW hE
theorem c_uParse : Calls Tryz.prog 31 #[str s] w0 (Ret fun r w' => Ext w0 w' ∧ r = rQ2 (parQ s)) := by
 obtain ⟨tl, htl⟩ : ∃ tl, tl = (spC 32 s).tail := ⟨_, rfl⟩
 obtain ⟨hd, hhd⟩ : ∃ hd, hd = hdS s := ⟨_, rfl⟩
 have hsp : spC 32 s = hd :: tl := by rw [htl, hhd]; exact sp_hd s
 have hlen := spC_len 32 s
 rw [hsp] at hlen
 have hhl : hd.length ≤ s.length := hlen.2 hd (by simp)
 have htl2 : ∀ x ∈ tl, x.length ≤ s.length := fun x hx => hlen.2 x (by simp [hx])
 have htn : tl.length ≤ s.length := by have := hlen.1; simp at this; omega
 have hpu : parU s = tl.foldlM stepU (0, 0, 0, 0) := by unfold parU; rw [htl]
 have hpe := parseS_e hd
 have hpl := parseS_len hd
 obtain ⟨n, hn⟩ : ∃ n, n = (parseS hd).1 := ⟨_, rfl⟩
 obtain ⟨d, hdd⟩ : ∃ d, d = (parseS hd).2.1 := ⟨_, rfl⟩
 obtain ⟨e, he⟩ : ∃ e, e = (parseS hd).2.2 := ⟨_, rfl⟩
 have hps : parseS (hdS s) = (n, d, e) := by rw [← hhd, hn, hdd, he]
 rw [← hn, ← hdd] at hpl
 rw [← he] at hpe
 have cr1 : ∀ {W : World}, Ext w0 W → Calls Tryz.prog 67 #[str s, str [32]] W (Ret fun r w' => ∃ v, r = v ∧ Hp [] W w' [ro tS 1 v (tl.length + 1) (str hd :: tl.map str)]) := fun {W} x => by
  have := c_Split (w := W) (s := s) (by omega) (hM.ext x)
  rw [hsp] at this
  exact this
 have cc2 : ∀ {W : World}, Ext w0 W → Calls Tryz.prog 68 #[str hd] W (Ret fun r w' => Ext W w' ∧ r = .tuple #[.agg #[str n, str d], .int .i64 e]) := fun {W} x => by
  have := c_Parse (w := W) (s := hd) (by omega) (hT.ext x) (hM.ext x)
  rw [show parseS hd = (n, d, e) by rw [← hps, hhd]] at this
  exact this
 have hsg : Seg (str hd :: tl.map str) 0 [str hd] := by
  intro k v hk
  rcases k with _ | k
  ·simpa using hk
  ·simp at hk
 suffices main : ∀ (R : Ending → World → Prop), (∀ w, Hp [] w0 w [] → R (.returned (rQ2 (parQ s))) w) → s_unit_Parse Tryz.prog (str s) w0 R from
  e_unit_Parse (main _ fun w h => Ret.mk ⟨h.ext, rfl⟩)
 intro R lf9
 unfold s_unit_Parse
 have h := Hp.init [] w0
 refine alS h fun g1 w h => ?_
 refine clR h n_strings_Split (cr1 h.ext) fun v1 w h => ?_
 refine iaRz h 0 rfl (by omega) (by omega) fun zg zk zv => ?_
 refine lr0 h 0 rfl ‹_› ‹_› (by rfl) ?_
 refine cl1 h n_rational_Parse (cc2 h.ext) fun w h => ?_
 refine Ex2 (alS h fun g2 w h => ?_)
 refine stA h 0 rfl rfl rfl rfl fun w h => ?_
 refine alS h fun g3 w h => ?_
 dsimp only [List.set] at h
 refine scLn (lo := 1) (qZ 2 h rfl) (by omega) fun v2 p1 => ?_
 replace p1 : Part 1 v1 (tl.length + 1) (str hd :: tl.map str) v2 tl.length (tl.map str) := p1
 refine leS (p1.2 _ (qZ 2 h rfl)) ?_
 refine Lp1.mk (fun i W => ∃ (j : Nat) (u : U4), j ≤ tl.length ∧ i = .int .i64 (j : Int) ∧ (tl.take j).foldlM stepU (0, 0, 0, 0) = some u ∧ Hp [] w0 W [bx g3 tA4 (fU4 u), bx g2 tR [str n, str d], ro tS 1 v1 (tl.length + 1) (str hd :: tl.map str), bx g1 tQy (fQ q0)])
  (fun i _ => match i with | .int _ i' => tl.length - i'.toNat | _ => 0) ⟨0, _, by omega, rfl, rfl, h⟩ ?_
 clear h
 rintro _ W ⟨j, u, hj, rfl, hu, h⟩
 by_cases hjl : j < tl.length
 ·have hx0 : ∃ x, tl[j]? = some x := ⟨_, List.getElem?_eq_getElem hjl⟩
  refine Exists.elim hx0 fun x hx => ?_
  have hxl := htl2 x (List.mem_of_getElem? hx)
  have hsx : Seg (tl.map str) (j * 1) [str x] := by
   intro k v hk
   rcases k with _ | k
   ·simp at hk; subst hk
    rw [Nat.mul_one, Nat.add_zero, List.getElem?_map, hx]; rfl
   ·simp at hk
  have hsn : (tl.take (j + 1)).foldlM stepU (0, 0, 0, 0) = stepU u x := by
   rw [tk_snoc hx, foldlM_app, hu, Option.bind_some]
   show (stepU u x).bind some = _
   rcases stepU u x <;> rfl
  refine Bn_ltT (by omega) (If_T ?_)
  have hsl : SlC W 1 v2 tl.length (tl.map str) := p1.2 W (qZ 2 h rfl)
  refine iaS hsl hjl fun b o cap hv hc => ?_
  refine lc0 (hc.seg hsx) rfl ?_
  have hge : w0.heap.size ≤ g3 := by
   have := (h.ks _ (List.mem_of_getElem? (i := 0) rfl) g3 (by simp)).2
   simpa using this
  have hb0 : Blk W g3 tA4 (fU4 u) := h.get (i := 0) rfl
  have hcr := c_read (wB := w0) (w0 := W) (g := g3) (u := u) (s := x) h.ext hge hM hW hE (by omega) hb0
  refine Cw_c1 n_unit_Parse_1 hcr ?_
  rintro _ W1 ⟨m, (⟨u', hu', rfl, b⟩ | ⟨hn', rfl, b⟩)⟩
  ·replace h := h.bxu 0 rfl m b
   refine Un_T (If_F (Bn_ad (by omega) (by omega) ?_))
   dsimp only [List.set] at h
   refine ⟨⟨j + 1, u', by omega, rfl, by rw [hsn, hu'], h⟩, ?_⟩
   show tl.length - ((j : Int) + 1).toNat < tl.length - (j : Int).toNat
   omega
  ·replace h := h.bxu 0 rfl m b
   have hpn : parU s = none := by
    rw [hpu, ← List.take_append_drop (j + 1) tl, foldlM_app, hsn, hn']; rfl
   rw [parQ_u hpn] at lf9
   refine Un_F (If_T (bdS PC.nil (by rfl) ?_))
   refine stA h 3 rfl rfl rfl rfl fun w h => ?_
   refine rcA h 3 rfl rfl ?_
   exact lf9 _ (h.pick [] (by decide) rfl)
 have htk : tl.take j = tl := List.take_of_length_le (by omega)
 rw [htk] at hu
 rw [hu] at hpu
 refine Bn_ltF (by omega) (If_F ?_)
 have cc3 := fun {W : World} (_ : Ext w0 W) => c_unit (w := W) (u := u)
 refine Jn1.mk fun K hK => ?_
 have hkq : QTk ⟨(n, d), u⟩ := ⟨by show n.length ≤ _; omega, by show d.length ≤ _; omega⟩
 have lf1 : ∀ gz w, Hp [] w0 w [bx gz tQy (fQ ⟨(n, d), u⟩), bx g1 tQy (fQ q0)] → K (pr gz 0) w := by
  clear h
  intro gz w h
  refine hK _ _ ?_
  clear hK
  have cc4 := fun {W : World} (x : Ext w0 W) => c_uPrint (w0 := W) hkq (hT.ext x) (hW.ext x)
  by_cases he0 : e = 0
  rotate_left
  ·rw [parQ_e hps he0] at lf9
   refine Bn_neT (by omega) (Gd_TF (Gd_TF (Gd_TF (Gd_TF (Pick_T (Gd_TF (Gd_TF (Pick_T (If_T (bdS PC.nil (by rfl) ?_))))))))))
   refine stA h 1 rfl rfl rfl rfl fun w h => ?_
   refine rcA h 1 rfl rfl ?_
   exact lf9 _ (h.pick [] (by decide) rfl)
  by_cases hp : prQ ⟨(n, d), u⟩ = s
  rotate_left
  ·have hpb : (prQ ⟨(n, d), u⟩ == s) = false := by simpa using hp
   rw [parQ_x (q := ⟨(n, d), u⟩) hps hpu hp] at lf9
   refine Bn_neF (by omega) (Gd_F (ldA h 0 rfl rfl ?_))
   refine Gd_F (cl1 h n_unit_Print (cc4 h.ext) fun w h => ?_)
   refine Gd_F (Gd_F (Bn_neSF ‹_› ?_))
   refine Pick_F (Gd_TF (Gd_TF (Pick_T (If_T (bdS PC.nil (by rfl) ?_)))))
   refine stA h 1 rfl rfl rfl rfl fun w h => ?_
   refine rcA h 1 rfl rfl ?_
   exact lf9 _ (h.pick [] (by decide) rfl)
  rw [hp] at cc4
  by_cases hs0 : s = []
  ·have hsb : (s == []) = true := by simpa using hs0
   have hq0 : parQ s = none := parQ_n fun q hv hq => prQ_ne hv (hq.trans hs0)
   rw [hq0] at lf9
   refine Bn_neF (by omega) (Gd_F (ldA h 0 rfl rfl ?_))
   refine Gd_F (cl1 h n_unit_Print (cc4 h.ext) fun w h => ?_)
   refine Gd_F (Gd_F (Bn_neST (Pick_F (Gd_F (Gd_F (Bn_eqS1 ‹_› ?_))))))
   refine Pick_F (If_T (bdS PC.nil (by rfl) ?_))
   refine stA h 1 rfl rfl rfl rfl fun w h => ?_
   refine rcA h 1 rfl rfl ?_
   exact lf9 _ (h.pick [] (by decide) rfl)
  ·have hsb : (s == []) = false := by simpa using hs0
   rw [parQ_ok hp hs0] at lf9
   refine Bn_neF (by omega) (Gd_F (ldA h 0 rfl rfl ?_))
   refine Gd_F (cl1 h n_unit_Print (cc4 h.ext) fun w h => ?_)
   refine Gd_F (Gd_F (Bn_neST (Pick_F (Gd_F (Gd_F (Bn_eqSF ‹_› ?_))))))
   refine Pick_F (If_F (ldA h 0 rfl rfl ?_))
   refine stA h 1 rfl rfl rfl rfl fun w h => ?_
   refine rcA h 1 rfl rfl ?_
   exact lf9 _ (h.pick [] (by decide) rfl)
 clear hK
 replace h := h.dr
 refine dlA h 1 rfl rfl ?_
 refine dlA h 0 rfl rfl ?_
 refine ⟨?_, ?_⟩
 refine cl1 h n_unit_unit (cc3 h.ext) fun w h => ?_
 refine klA h 1 rfl rfl ?_
 refine dbS (PC.cons (by rfl) (PC.cons (by rfl) PC.nil)) (by rfl) ?_
 refine alS h fun g4 w h => ?_
 refine klA h 2 rfl rfl ?_
 refine klA h 1 rfl rfl ?_
 refine stA h 0 rfl rfl rfl rfl fun w h => ?_
 exact lf1 _ _ (h.pick [0, 4] (by decide) rfl)
 refine alS h fun g4 w h => ?_
 refine klA h 2 rfl rfl ?_
 refine klA h 1 rfl rfl ?_
 refine cl1 h n_unit_unit (cc3 h.ext) fun w h => ?_
 refine klA h 2 rfl rfl ?_
 refine dbS (PC.cons (by rfl) (PC.cons (by rfl) PC.nil)) (by rfl) ?_
 refine stA h 0 rfl rfl rfl rfl fun w h => ?_
 exact lf1 _ _ (h.pick [0, 4] (by decide) rfl)
end
end Go.Proofs.YtdbcpkihokagkaaGreatDoor
