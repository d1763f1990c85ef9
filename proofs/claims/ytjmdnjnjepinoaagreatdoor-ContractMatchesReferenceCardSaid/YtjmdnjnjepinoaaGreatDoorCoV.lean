/-
  Contracts and plain lemmas. By an AI agent.
-/
import Derived.Test.YtjmdnjnjepinoaaGreatDoorCoR
set_option linter.unusedSimpArgs false
set_option linter.unusedVariables false
set_option linter.unusedSectionVars false
namespace Go.Proofs.YtjmdnjnjepinoaaGreatDoor
open Go Go.Eng Go.Proofs Go.Num Go.RowKit
set_option maxRecDepth 100000
theorem itoa_le {z : Int} {k : Nat} (hk : 1 ≤ k) (h0 : 0 ≤ z) (h : z.natAbs < 10 ^ k) : (Lib.itoa z).length ≤ k := by
 unfold Lib.itoa
 rw [if_neg (by omega)]
 exact (dec_len hk).2 (by omega)
theorem shR_y {x : Rat} {D : Nat} (hD : 1 ≤ D) (hB : RB x) (h0 : 0 ≤ x) (h : SR D D x) : shR D (tx x) = some x := by
 unfold shR
 rw [if_pos ⟨itoa_le hD (Rat.num_nonneg.2 h0) h.1, itoa_le hD (by omega) h.2⟩, qv_tx hB]
 simp only [Option.bind_some]
 rw [if_pos h0]
theorem GS.shR {D : Nat} {l : List Rat} (h : GS D l) {x : Rat} (hx : x ∈ l) : shR 40 (tx x) = some x :=
 shR_y (by decide) (h.sml hx).rb (h.nn x hx) ((dr_sz (h.dr x hx) h.d0 h.d1 (k := 9) (by decide)).mono (by decide) (by decide))
theorem GS.xv {D : Nat} {l : List Rat} (h : GS D l) {x : Rat} (hx : x ∈ l) : xv (tx x) = x := xv_of (h.shR hx)
theorem sumP_ok {D : Nat} : ∀ (n : Nat) {l : List Rat}, l.length = n → GS D l → sumP (txs l) = some (lsum qid l)
 | 0, l, hn, h => by
  have : l = [] := List.eq_nil_of_length_eq_zero hn
  subst this; rfl
 | n + 1, l, hn, h => by
  rcases List.eq_nil_or_concat l with rfl | ⟨m, x, rfl⟩
  ·simp at hn
  ·rw [List.concat_eq_append] at hn h ⊢
   have hm : m.length = n := by simpa using hn
   have hx : x ∈ m ++ [x] := by simp
   have hgm : GS D m := by
    have := h.take m.length
    rwa [List.take_left] at this
   rw [txs_app]
   show sumP (txs m ++ [tx x]) = _
   rw [sumP_snoc, sumP_ok n hm hgm, h.shR hx, lsum_snoc]
   show oAdd (some (lsum qid m)) (some x) = _
   exact oadd_ok hgm.ssum (h.sml hx)
structure GP (D : Nat) (l : List Rat) : Prop extends GS D l where
 len1 : 1 ≤ l.length
 pos : 0 < lsum qid l
section
variable {D : Nat} {l : List Rat} {a : Int} (h : GP D l) (ha : 0 ≤ a ∧ a ≤ 1000000000)
include h
theorem sumO_ok : sumO (txs l) = some (lsum qid l) := by
 have h1 := h.len1
 have h2 := h.len
 unfold sumO
 rw [if_pos (by rw [txs_len]; omega), sumP_ok _ rfl h.toGS]
 simp only [Option.bind_some]
 rw [if_neg]
 intro e
 have := h.pos
 rw [e] at this
 exact absurd this (Rat.lt_irrefl)
include ha
theorem qa_DR : DR 1 1000000000 (qI a) := ⟨a, by show (a : Rat) = (a : Rat) / ((1 : Int) : Rat); rw [q_div1], by omega⟩
theorem elO_ok {x : Rat} (hx : x ∈ l) : elO a (lsum qid l) (tx x) = some (qI a * x / lsum qid l, qI a * x / lsum qid l - qI (whZ (qI a * x / lsum qid l) a)) := by
 have hd := h.d0
 have y1 : DR (1 * D) (1000000000 * 2500) (qI a * x) := (qa_DR h ha).mul (h.dr x hx) (by decide) h.d0
 rw [Nat.one_mul] at y1
 have sa : Sml (qI a) := ⟨by rw [Rat.num_intCast]; exact Nat.lt_of_le_of_lt (m := 1000000000) (by omega) (by decide +kernel), by rw [Rat.den_intCast]; show (1 : Nat) < 10 ^ 99; decide +kernel⟩
 have h1 := omul_ok sa (h.toGS.sml hx)
 have sy : SR 18 6 (qI a * x) := dr_sz y1 h.d0 h.d1 (by decide)
 have ss : SR 10 6 (lsum qid l) := dr_sz h.toGS.sum h.d0 h.d1 (by decide)
 have hne : lsum qid l ≠ 0 := fun e => by have := h.pos; rw [e] at this; exact absurd this Rat.lt_irrefl
 have h2 := odiv_ok (sy.mono (by decide) (by decide)) h.toGS.ssum hne
 have sp : SR (18 + 6) (6 + 10) (qI a * x / lsum qid l) := SR.div sy ss hne
 have hp0 : 0 ≤ qI a * x / lsum qid l := by
  have haq : (0 : Rat) ≤ qI a := by show (0 : Rat) ≤ (a : Rat); exact_mod_cast ha.1
  have h3 : 0 ≤ qI a * x := Rat.mul_nonneg haq (h.nn x hx)
  refine Rat.not_lt.1 fun hc => ?_
  have := (Rat.div_lt_iff h.pos).1 hc
  rw [Rat.zero_mul] at this
  grind
 have hw := whZ_bd hp0 ha.1
 have h3 := osub_ok (x := qI a * x / lsum qid l) (y := qI (whZ (qI a * x / lsum qid l) a)) (sp.mono (by decide) (by decide)) ⟨by rw [Rat.num_intCast]; exact Nat.lt_of_le_of_lt (m := 1000000000) (by omega) (by decide +kernel), by rw [Rat.den_intCast]; show (1 : Nat) < 10 ^ 99; decide +kernel⟩
 exact elO_y (h.toGS.xv hx) h1 h2 h3
abbrev prL (l : List Rat) (a : Int) : List Rat := l.map fun x => qI a * x / lsum qid l
theorem allO_ok {m : List Rat} (hm : ∀ x ∈ m, x ∈ l) : ∃ E, allO (elO a (lsum qid l)) (txs m) = some E ∧ E.map (·.1) = m.map fun x => qI a * x / lsum qid l := by
 induction m with
 | nil => exact ⟨[], rfl, rfl⟩
 | cons x m ih =>
  obtain ⟨E, h1, h2⟩ := ih fun y hy => hm y (by simp [hy])
  refine ⟨(qI a * x / lsum qid l, qI a * x / lsum qid l - qI (whZ (qI a * x / lsum qid l) a)) :: E, ?_, by rw [List.map_cons, h2]; rfl⟩
  show allO (elO a (lsum qid l)) (tx x :: txs m) = _
  unfold allO
  rw [elO_ok h ha (hm x (by simp)), h1]
theorem splO_ok : splO a (txs l) = some (partsL (prL l a) a) ∧ Spl (prL l a) a := by
 obtain ⟨E, h1, h2⟩ := allO_ok h ha (m := l) fun x hx => hx
 have hs := sumO_ok h
 have h3 := splO_some hs ha h1
 have h4 := spl_of hs ha.1 h1
 have h5 := h4.spl
 rw [h2] at h3 h5
 exact ⟨h3, h5⟩
end
instance {R : Nat → Rat} {k i : Nat} : Decidable (Bts R k i) := inferInstanceAs (Decidable (_ ∨ _))
instance {R : Nat → Rat} {n : Nat} {l : List Nat} : Decidable (IsOrd R n l) := inferInstanceAs (Decidable (_ ∧ _))
theorem partsL_eq {P : List Rat} {a : Int} {o : List Nat} {m : List Int} (h : IsOrd (rsA P) P.length o) (hm : (List.range P.length).map (fun i => flA P i + ext1 o (a - gZ (flA P) (List.range P.length)).toNat i) = m) : partsL P a = m := by
 unfold partsL partA leftA
 rw [← h.eq]
 exact hm
abbrev hq (n d : Int) : Rat := (n : Rat) / (d : Rat)
abbrev sl1 : List Rat := [hq 1 1, hq 1 1, hq 1 1]
abbrev sl2 : List Rat := [hq 1 2, hq 0 1, hq 1 3]
abbrev sl3 : List Rat := [hq 1 10, hq 1 5, hq 7 10]
abbrev sl4 : List Rat := [hq 1 1, hq 0 1, hq 0 1, hq 0 1]
abbrev sl5 : List Rat := [hq 0 1, hq 1 1, hq 0 1, hq 1 1]
theorem hq_DR {n d : Int} (hn : n.natAbs ≤ 2500) (h0 : 0 < d) (hd : d.natAbs ∣ 2520) : DR 2520 2500 (hq n d) := DR.of h0 hd (by decide) hn
theorem gp_of {l : List Rat} (h : ∀ x ∈ l, DR 2520 2500 x ∧ 0 ≤ x) (h12 : l.length ≤ 12) (h1 : 1 ≤ l.length) (hp : 0 < lsum qid l) : GP 2520 l :=
 ⟨⟨by decide, by decide, fun x hx => (h x hx).1, fun x hx => (h x hx).2, h12⟩, h1, hp⟩
theorem gp1 : GP 2520 sl1 := gp_of (by
 intro x hx
 simp only [List.mem_cons, List.not_mem_nil, or_false] at hx
 rcases hx with rfl | rfl | rfl <;> exact ⟨hq_DR (by decide) (by decide) (by decide), by decide +kernel⟩) (by decide) (by decide) (by decide +kernel)
theorem gp2 : GP 2520 sl2 := gp_of (by
 intro x hx
 simp only [List.mem_cons, List.not_mem_nil, or_false] at hx
 rcases hx with rfl | rfl | rfl <;> exact ⟨hq_DR (by decide) (by decide) (by decide), by decide +kernel⟩) (by decide) (by decide) (by decide +kernel)
theorem gp3 : GP 2520 sl3 := gp_of (by
 intro x hx
 simp only [List.mem_cons, List.not_mem_nil, or_false] at hx
 rcases hx with rfl | rfl | rfl <;> exact ⟨hq_DR (by decide) (by decide) (by decide), by decide +kernel⟩) (by decide) (by decide) (by decide +kernel)
theorem gp4 : GP 2520 sl4 := gp_of (by
 intro x hx
 simp only [List.mem_cons, List.not_mem_nil, or_false] at hx
 rcases hx with rfl | rfl | rfl | rfl <;> exact ⟨hq_DR (by decide) (by decide) (by decide), by decide +kernel⟩) (by decide) (by decide) (by decide +kernel)
theorem gp5 : GP 2520 sl5 := gp_of (by
 intro x hx
 simp only [List.mem_cons, List.not_mem_nil, or_false] at hx
 rcases hx with rfl | rfl | rfl | rfl <;> exact ⟨hq_DR (by decide) (by decide) (by decide), by decide +kernel⟩) (by decide) (by decide) (by decide +kernel)
theorem sp1 : splO 100 (txs sl1) = some [34, 33, 33] := by
 rw [(splO_ok gp1 (by decide)).1, partsL_eq (o := [0, 1, 2]) (m := [34, 33, 33]) (by decide +kernel) (by decide +kernel)]
theorem sp2 : splO 10 (txs sl2) = some [6, 0, 4] := by
 rw [(splO_ok gp2 (by decide)).1, partsL_eq (o := [0, 1, 2]) (m := [6, 0, 4]) (by decide +kernel) (by decide +kernel)]
theorem sp3 : splO 1 (txs sl3) = some [0, 0, 1] := by
 rw [(splO_ok gp3 (by decide)).1, partsL_eq (o := [2, 1, 0]) (m := [0, 0, 1]) (by decide +kernel) (by decide +kernel)]
theorem sp4 : splO 0 (txs sl4) = some [0, 0, 0, 0] := by
 rw [(splO_ok gp4 (by decide)).1, partsL_eq (o := [0, 1, 2, 3]) (m := [0, 0, 0, 0]) (by decide +kernel) (by decide +kernel)]
theorem sp5 : splO 2 (txs sl5) = some [0, 1, 0, 1] := by
 rw [(splO_ok gp5 (by decide)).1, partsL_eq (o := [0, 1, 2, 3]) (m := [0, 1, 0, 1]) (by decide +kernel) (by decide +kernel)]
theorem sp0 : splO 1 (txs [hq 0 1]) = none := by
 have hg : GS 2520 [hq 0 1] := ⟨by decide, by decide, fun x hx => by simp at hx; subst hx; exact hq_DR (by decide) (by decide) (by decide), fun x hx => by simp at hx; subst hx; decide +kernel, by decide⟩
 have : sumO (txs [hq 0 1]) = none := by
  unfold sumO
  rw [if_pos (by decide), sumP_ok _ rfl hg]
  simp only [Option.bind_some]
  rw [if_pos (by decide +kernel)]
 unfold splO
 rw [this]; rfl
abbrev cS : CT := ⟨0, 1, tx (hq 1 10), 5⟩
theorem cS_val : valC cS = some (hq 1 10) := by
 unfold valC
 rw [if_pos (by decide)]
 exact shR_y (by decide) (dr_sml (hq_DR (n := 1) (d := 10) (by decide) (by decide) (by decide)) (by decide) (by decide) (by decide)).rb (by decide +kernel) ⟨by unfold Sz; decide +kernel, by unfold Sz; decide +kernel⟩
theorem cS_k : CTk cS := by
 have hB := (dr_sml (hq_DR (n := 1) (d := 10) (by decide) (by decide) (by decide)) (by decide) (by decide) (by decide)).rb
 exact ⟨by decide, by decide, by decide, itoa_ok hB.n, itoa_ok hB.d⟩
theorem pe1 : penO cS [30, 0, 25, 19, 40] = some [0, 0, 2, 1, 2] := by
 unfold penO
 rw [cS_val]
 simp only [Option.bind_some]
 rw [if_pos (by decide)]
 decide +kernel
theorem pe2 : penO cS [30, 25] = some [0, 2] := by
 unfold penO
 rw [cS_val]
 simp only [Option.bind_some]
 rw [if_pos (by decide)]
 decide +kernel
abbrev duS : List Du := [(4, 1, 1), (4, 3, 1)]
theorem bi1 {a b : Option Addr} {n m k j : Nat} : bilO cS [⟨3, 30, a, n, k, txs sl4⟩, ⟨4, 25, b, m, j, txs sl5⟩] = some duS := by
 refine (bilO_y (pen := [0, 2]) (D := [[], duS]) pe2 ?_ ?_).trans rfl
 ·refine ⟨fun e he => ?_, fun i x y hx hy => ?_⟩
  ·simp only [List.mem_cons, List.not_mem_nil, or_false] at he
   rcases he with rfl | rfl <;> exact ⟨by dsimp only; decide, by dsimp only; decide⟩
  ·rcases i with _ | _ | i
   ·simp at hx hy; subst hx; subst hy; dsimp only; decide
   ·simp at hy
   ·simp at hx
 ·show allO billE [(0, (⟨3, 30, a, n, k, txs sl4⟩ : LE)), (2, ⟨4, 25, b, m, j, txs sl5⟩)] = _
  have h1 : billE (0, (⟨3, 30, a, n, k, txs sl4⟩ : LE)) = some [] := billE_y (e := ⟨3, 30, a, n, k, txs sl4⟩) (by dsimp only; decide) sp4 rfl
  have h2 : billE (2, (⟨4, 25, b, m, j, txs sl5⟩ : LE)) = some duS := billE_y (e := ⟨4, 25, b, m, j, txs sl5⟩) (by dsimp only; decide) sp5 rfl
  unfold allO allO allO
  rw [h1, h2]
theorem to1 : totO duS = some [0, 1, 0, 1] := by
 unfold totO
 rw [if_pos (by decide)]; rfl
abbrev vS : Value := .agg #[.int .i64 0, .int .i64 1, str (eN (some (hq 1 10))), str (eD (some (hq 1 10))), .int .i64 5]
abbrev tup (v : Value) : Value := .tuple #[v, .int .i64 0]
section
variable {W : World}
theorem s_split {v : Value} {l : List Rat} {a : Int} {m : List Int} (he : En W) (hv : SlC W 2 v l.length (l.flatMap fTx)) (hg : GS 2520 l) (ha : I64 a) (h : splO a (txs l) = some m) :
 Calls Tryz.prog 24 #[.int .i64 a, v] W (Ret fun r w' => ∃ u, r = tup u ∧ Hp [] W w' [ro tI 1 u m.length (m.flatMap fI)]) := by
 have hl := hg.len
 have := c_Split (v := v) (l := txs l) (a := a) (w0 := W) (by unfold SlR; rw [txs_flat, txs_len]; exact hv) (fun p hp => by
  obtain ⟨x, hx, rfl⟩ := List.mem_map.1 hp
  have hB := (hg.sml hx).rb
  exact ⟨itoa_ok hB.n, itoa_ok hB.d⟩) (by rw [txs_len]; omega) ha he
 rw [h] at this
 exact this
theorem s_split0 {v : Value} (he : En W) (hv : SlC W 2 v 1 [str (eN (some (hq 0 1))), str (eD (some (hq 0 1)))]) : Calls Tryz.prog 24 #[.int .i64 1, v] W (Ret fun r w' => Ext W w' ∧ r = .tuple #[.slice none 0 0, .int .i64 260]) := by
 have := c_Split (v := v) (l := txs [hq 0 1]) (a := 1) (w0 := W) hv (fun p hp => by
  simp at hp; subst hp
  have hB := (dr_sml (hq_DR (n := 0) (d := 1) (by decide) (by decide) (by decide)) (by decide) (by decide) (by decide)).rb
  exact ⟨itoa_ok hB.n, itoa_ok hB.d⟩) (by decide) (by decide) he
 rw [sp0] at this
 refine this.mono ?_
 rintro _ w' ⟨_, rfl, rfl, x⟩
 exact Ret.mk ⟨x, rfl⟩
theorem s_pen {v : Value} {l m : List Int} (he : En W) (hv : SlC W 1 v l.length (l.flatMap fI)) (hI : ∀ y ∈ l, I64 y) (hl : l.length ≤ 100) (h : penO cS l = some m) :
 Calls Tryz.prog 13 #[vC cS, v] W (Ret fun r w' => ∃ u, r = tup u ∧ Hp [] W w' [ro tI 1 u m.length (m.flatMap fI)]) := by
 have := c_Penalties (w0 := W) cS_k hv hI (by omega) he
 rw [h] at this
 exact this
theorem s_bill {v v1 v2 : Value} (he : En W) (hv : SlC W 3 v 2 [.int .i64 3, .int .i64 30, v1, .int .i64 4, .int .i64 25, v2]) (h1 : SlC W 2 v1 4 (sl4.flatMap fTx)) (h2 : SlC W 2 v2 4 (sl5.flatMap fTx)) :
 Calls Tryz.prog 18 #[vC cS, v] W (Ret fun r w' => ∃ u, r = tup u ∧ Hp [] W w' [ro tD 3 u duS.length (duS.flatMap fU)]) := by
 obtain ⟨a, n, k, rfl⟩ := slc_mk h1
 obtain ⟨b, m, j, rfl⟩ := slc_mk h2
 have hR : ∀ {l : List Rat}, GS 2520 l → RSok (txs l) := fun hg p hp => by
  obtain ⟨x, hx, rfl⟩ := List.mem_map.1 hp
  have hB := (hg.sml hx).rb
  exact ⟨itoa_ok hB.n, itoa_ok hB.d⟩
 have := c_Bill (w0 := W) (l := [⟨3, 30, a, n, k, txs sl4⟩, ⟨4, 25, b, m, j, txs sl5⟩]) cS_k hv (fun e he => by
  simp only [List.mem_cons, List.not_mem_nil, or_false] at he
  rcases he with rfl | rfl
  ·exact h1
  ·exact h2) (fun e he => by
  simp only [List.mem_cons, List.not_mem_nil, or_false] at he
  rcases he with rfl | rfl
  ·exact ⟨by dsimp only; decide, by dsimp only; decide, hR gp4.toGS, by simp⟩
  ·exact ⟨by dsimp only; decide, by dsimp only; decide, hR gp5.toGS, by simp⟩) (by simp) he
 rw [bi1] at this
 exact this
theorem s_tot {v : Value} (hv : SlC W 3 v 2 (duS.flatMap fU)) : Calls Tryz.prog 21 #[v] W (Ret fun r w' => ∃ u, r = tup u ∧ Hp [] W w' [ro tI 1 u 4 [.int .i64 0, .int .i64 1, .int .i64 0, .int .i64 1]]) := by
 have := c_Totals (w0 := W) (l := duS) hv (fun d hd => by
  simp only [List.mem_cons, List.not_mem_nil, or_false] at hd
  rcases hd with rfl | rfl <;> exact ⟨by decide, by decide, by decide⟩) (by decide)
 rw [to1] at this
 exact this
theorem s_valid (he : En W) : Calls Tryz.prog 15 #[vS] W (Ret fun r w' => Ext W w' ∧ r = .bool true) := by
 have := c_ValidC (w := W) cS_k he.hT
 rw [cS_val] at this
 exact this
theorem s_novalid (he : En W) : Calls Tryz.prog 15 #[.agg #[.int .i64 0, .int .i64 0, str [], str [], .int .i64 0]] W (Ret fun r w' => Ext W w' ∧ r = .bool false) := by
 have := c_ValidC (w := W) (c := ⟨0, 0, ([], []), 0⟩) ⟨by decide, by decide, by decide, by decide, by decide⟩ he.hT
 have e : valC ⟨0, 0, ([], []), 0⟩ = none := by
  unfold valC
  rw [if_pos (by decide)]
  unfold shR
  rw [if_pos (by decide), qv_none (ok_nil _)]; rfl
 rw [e] at this
 exact this
end
set_option maxHeartbeats 8000000 in
theorem c_sane {w0 : World} (he : En w0) : Calls Tryz.prog 9 #[] w0 (Ret fun r w' => Ext w0 w' ∧ r = .bool true) := by
 have of1 : ∀ {n d : Int}, I64 n → I64 d → d ≠ 0 → ∀ {W : World}, Ext w0 W → Calls Tryz.prog 29 #[.int .i64 n, .int .i64 d] W (Ret fun r w' => Ext W w' ∧ r = ov (some (hq n d))) := fun {n d} h1 h2 h3 {W} x => c_of (he.hT.ext x) h1 h2 h3
 have cc1 := fun {W : World} (x : Ext w0 W) => of1 (n := 1) (d := 10) (by decide) (by decide) (by decide) x
 have cc2 := fun {W : World} (x : Ext w0 W) => of1 (n := 1) (d := 1) (by decide) (by decide) (by decide) x
 have cc3 := fun {W : World} (x : Ext w0 W) => of1 (n := 1) (d := 2) (by decide) (by decide) (by decide) x
 have cc4 := fun {W : World} (x : Ext w0 W) => of1 (n := 0) (d := 1) (by decide) (by decide) (by decide) x
 have cc5 := fun {W : World} (x : Ext w0 W) => of1 (n := 1) (d := 3) (by decide) (by decide) (by decide) x
 have cc6 := fun {W : World} (x : Ext w0 W) => of1 (n := 1) (d := 5) (by decide) (by decide) (by decide) x
 have cc7 := fun {W : World} (x : Ext w0 W) => of1 (n := 7) (d := 10) (by decide) (by decide) (by decide) x
 have cr1 : ∀ {W : World}, Ext w0 W → ∀ {v : Value}, SlC W 2 v 3 (sl1.flatMap fTx) → Calls Tryz.prog 24 #[.int .i64 100, v] W (Ret fun r w' => ∃ u, r = .tuple #[u, .int .i64 0] ∧ Hp [] W w' [ro tI 1 u 3 [.int .i64 34, .int .i64 33, .int .i64 33]]) := fun x _ h => s_split (he.ext x) h gp1.toGS (by decide) sp1
 have cr2 : ∀ {W : World}, Ext w0 W → ∀ {v : Value}, SlC W 2 v 3 (sl2.flatMap fTx) → Calls Tryz.prog 24 #[.int .i64 10, v] W (Ret fun r w' => ∃ u, r = .tuple #[u, .int .i64 0] ∧ Hp [] W w' [ro tI 1 u 3 [.int .i64 6, .int .i64 0, .int .i64 4]]) := fun x _ h => s_split (he.ext x) h gp2.toGS (by decide) sp2
 have cr3 : ∀ {W : World}, Ext w0 W → ∀ {v : Value}, SlC W 2 v 3 (sl3.flatMap fTx) → Calls Tryz.prog 24 #[.int .i64 1, v] W (Ret fun r w' => ∃ u, r = .tuple #[u, .int .i64 0] ∧ Hp [] W w' [ro tI 1 u 3 [.int .i64 0, .int .i64 0, .int .i64 1]]) := fun x _ h => s_split (he.ext x) h gp3.toGS (by decide) sp3
 have cc8 : ∀ {W : World}, Ext w0 W → ∀ {v : Value}, SlC W 2 v 1 [str (eN (some (hq 0 1))), str (eD (some (hq 0 1)))] → Calls Tryz.prog 24 #[.int .i64 1, v] W (Ret fun r w' => Ext W w' ∧ r = .tuple #[.slice none 0 0, .int .i64 260]) := fun x _ h => s_split0 (he.ext x) h
 have cr4 : ∀ {W : World}, Ext w0 W → ∀ {v : Value}, SlC W 1 v 5 [.int .i64 30, .int .i64 0, .int .i64 25, .int .i64 19, .int .i64 40] → Calls Tryz.prog 13 #[vS, v] W (Ret fun r w' => ∃ u, r = .tuple #[u, .int .i64 0] ∧ Hp [] W w' [ro tI 1 u 5 [.int .i64 0, .int .i64 0, .int .i64 2, .int .i64 1, .int .i64 2]]) := fun x _ h => s_pen (l := [30, 0, 25, 19, 40]) (he.ext x) h (by decide) (by decide) pe1
 have cr5 : ∀ {W : World}, Ext w0 W → ∀ {v v1 v2 : Value}, SlC W 3 v 2 [.int .i64 3, .int .i64 30, v1, .int .i64 4, .int .i64 25, v2] → SlC W 2 v1 4 (sl4.flatMap fTx) → SlC W 2 v2 4 (sl5.flatMap fTx) → Calls Tryz.prog 18 #[vS, v] W (Ret fun r w' => ∃ u, r = .tuple #[u, .int .i64 0] ∧ Hp [] W w' [ro tD 3 u 2 (duS.flatMap fU)]) := fun x _ _ _ h h1 h2 => s_bill (he.ext x) h h1 h2
 have cr6 : ∀ {W : World}, Ext w0 W → ∀ {v : Value}, SlC W 3 v 2 (duS.flatMap fU) → Calls Tryz.prog 21 #[v] W (Ret fun r w' => ∃ u, r = .tuple #[u, .int .i64 0] ∧ Hp [] W w' [ro tI 1 u 4 [.int .i64 0, .int .i64 1, .int .i64 0, .int .i64 1]]) := fun x _ h => s_tot h
 have cc9 := fun {W : World} (x : Ext w0 W) => s_valid (he.ext x)
 have cc10 := fun {W : World} (x : Ext w0 W) => s_novalid (he.ext x)
 have cc11 : ∀ {W : World}, Ext w0 W → ∀ {v u : Value} {a b c : Int}, SlC W 1 v 3 [.int .i64 a, .int .i64 b, .int .i64 c] → SlC W 1 u 3 [.int .i64 a, .int .i64 b, .int .i64 c] → Calls Tryz.prog 17 #[v, u] W (Ret fun r w' => Ext W w' ∧ r = .bool true) := fun x _ _ a b c h1 h2 => c_SameT (l := [a, b, c]) h1 h2 (by simp)
 have cc12 : ∀ {W : World}, Ext w0 W → ∀ {v u : Value} {a b c d : Int}, SlC W 1 v 4 [.int .i64 a, .int .i64 b, .int .i64 c, .int .i64 d] → SlC W 1 u 4 [.int .i64 a, .int .i64 b, .int .i64 c, .int .i64 d] → Calls Tryz.prog 17 #[v, u] W (Ret fun r w' => Ext W w' ∧ r = .bool true) := fun x _ _ a b c d h1 h2 => c_SameT (l := [a, b, c, d]) h1 h2 (by simp)
 have cc13 : ∀ {W : World}, Ext w0 W → ∀ {v u : Value} {a b c d e : Int}, SlC W 1 v 5 [.int .i64 a, .int .i64 b, .int .i64 c, .int .i64 d, .int .i64 e] → SlC W 1 u 5 [.int .i64 a, .int .i64 b, .int .i64 c, .int .i64 d, .int .i64 e] → Calls Tryz.prog 17 #[v, u] W (Ret fun r w' => Ext W w' ∧ r = .bool true) := fun x _ _ a b c d e h1 h2 => c_SameT (l := [a, b, c, d, e]) h1 h2 (by simp)
 have cc14 : ∀ {W : World}, Ext w0 W → ∀ {v u : Value}, SlC W 3 v 2 (duS.flatMap fU) → SlC W 3 u 2 (duS.flatMap fU) → Calls Tryz.prog 20 #[v, u] W (Ret fun r w' => Ext W w' ∧ r = .bool true) := fun x _ _ h1 h2 => c_SameD (l := duS) h1 h2 (by decide)
 apply e_law26_sane
 unfold s_law26_sane
 have h := Hp.init [] w0
 refine cl1 h n_law26_of (cc1 h.ext) fun w h => ?_
 refine bdS (PC.cons (by rfl) (PC.cons (by rfl) (PC.cons (by rfl) PC.nil))) (by rfl) ?_
 refine alS h fun g1 w h => ?_
 refine stA h 0 rfl rfl rfl rfl fun w h => ?_
 refine cl1 h n_law26_of (cc2 h.ext) fun w h => ?_
 refine cl1 h n_law26_of (cc2 h.ext) fun w h => ?_
 refine cl1 h n_law26_of (cc2 h.ext) fun w h => ?_
 refine bsN (vs := [_, _, _]) h (.cons (by rfl) (by rfl) (.cons (by rfl) (by rfl) (.cons (by rfl) (by rfl) .nil))) (by rfl) (by rfl) (by decide) (by decide) (by decide) fun v1 w h => ?_
 refine clR h n_contract_Split (cr1 h.ext (by first | exact (qZ 0 h rfl) | assumption)) fun v2 w h => ?_
 refine Ex2 (cl1 h n_law26_of (cc3 h.ext) fun w h => ?_)
 refine cl1 h n_law26_of (cc4 h.ext) fun w h => ?_
 refine cl1 h n_law26_of (cc5 h.ext) fun w h => ?_
 refine bsN (vs := [_, _, _]) h (.cons (by rfl) (by rfl) (.cons (by rfl) (by rfl) (.cons (by rfl) (by rfl) .nil))) (by rfl) (by rfl) (by decide) (by decide) (by decide) fun v3 w h => ?_
 refine clR h n_contract_Split (cr2 h.ext (by first | exact (qZ 0 h rfl) | assumption)) fun v4 w h => ?_
 refine Ex2 (cl1 h n_law26_of (cc1 h.ext) fun w h => ?_)
 refine cl1 h n_law26_of (cc6 h.ext) fun w h => ?_
 refine cl1 h n_law26_of (cc7 h.ext) fun w h => ?_
 refine bsN (vs := [_, _, _]) h (.cons (by rfl) (by rfl) (.cons (by rfl) (by rfl) (.cons (by rfl) (by rfl) .nil))) (by rfl) (by rfl) (by decide) (by decide) (by decide) fun v5 w h => ?_
 refine clR h n_contract_Split (cr3 h.ext (by first | exact (qZ 0 h rfl) | assumption)) fun v6 w h => ?_
 refine Ex2 (ldA h 6 rfl rfl ?_)
 refine bsN (vs := [_, _, _, _, _]) h (.cons (by rfl) (by rfl) (.cons (by rfl) (by rfl) (.cons (by rfl) (by rfl) (.cons (by rfl) (by rfl) (.cons (by rfl) (by rfl) .nil))))) (by rfl) (by rfl) (by decide) (by decide) (by decide) fun v7 w h => ?_
 refine clR h n_contract_Penalties (cr4 h.ext (by first | exact (qZ 0 h rfl) | assumption)) fun v8 w h => ?_
 refine Ex2 (cl1 h n_law26_of (cc4 h.ext) fun w h => ?_)
 refine bs1A h (by rfl) (by decide) (by rfl) (by decide) fun v9 w h => ?_
 refine cl1 h n_contract_Split (cc8 h.ext (by first | exact (qZ 0 h rfl) | assumption)) fun w h => ?_
 refine Ex2 ?_
 dsimp only [List.set] at h
 have h := h.pick [1, 3, 5, 7, 9] (by decide) rfl
 refine Jn2.mk fun K hK => ?_
 have lf1 : ∀ u w, Hp [] w0 w [ro tD 3 u 2 (duS.flatMap fU), ro tI 1 v8 5 [.int .i64 0, .int .i64 0, .int .i64 2, .int .i64 1, .int .i64 2], ro tI 1 v6 3 [.int .i64 0, .int .i64 0, .int .i64 1], ro tI 1 v4 3 [.int .i64 6, .int .i64 0, .int .i64 4], ro tI 1 v2 3 [.int .i64 34, .int .i64 33, .int .i64 33], bx g1 tC [.int .i64 0, .int .i64 1, str (eN (some (hq 1 10))), str (eD (some (hq 1 10))), .int .i64 5]] → K u (.int .i64 0) w := by
  clear h
  intro u w h
  refine hK _ _ _ ?_
  clear hK
  refine clR h n_contract_Totals (cr6 h.ext (by first | exact (qZ 0 h rfl) | assumption)) fun v10 w h => ?_
  refine Ex2 (bsN (vs := [_, _, _]) h (.cons (by rfl) (by rfl) (.cons (by rfl) (by rfl) (.cons (by rfl) (by rfl) .nil))) (by rfl) (by rfl) (by decide) (by decide) (by decide) fun v11 w h => ?_)
  refine cl1 h n_ref26_Same (cc11 h.ext (by first | exact (qZ 6 h rfl) | assumption) (by first | exact (qZ 0 h rfl) | assumption)) fun w h => ?_
  refine Gd_T (Gd_T (bsN (vs := [_, _, _]) h (.cons (by rfl) (by rfl) (.cons (by rfl) (by rfl) (.cons (by rfl) (by rfl) .nil))) (by rfl) (by rfl) (by decide) (by decide) (by decide) fun v12 w h => ?_))
  refine Gd_T (cl1 h n_ref26_Same (cc11 h.ext (by first | exact (qZ 6 h rfl) | assumption) (by first | exact (qZ 0 h rfl) | assumption)) fun w h => ?_)
  refine Pick_T (Gd_T (Gd_T (bsN (vs := [_, _, _]) h (.cons (by rfl) (by rfl) (.cons (by rfl) (by rfl) (.cons (by rfl) (by rfl) .nil))) (by rfl) (by rfl) (by decide) (by decide) (by decide) fun v13 w h => ?_)))
  refine Gd_T (cl1 h n_ref26_Same (cc11 h.ext (by first | exact (qZ 6 h rfl) | assumption) (by first | exact (qZ 0 h rfl) | assumption)) fun w h => ?_)
  refine Pick_T (bdS (PC.cons (by rfl) (PC.cons (by rfl) (PC.cons (by rfl) PC.nil))) (by rfl) ?_)
  refine bdS (PC.cons (by rfl) (PC.cons (by rfl) (PC.cons (by rfl) PC.nil))) (by rfl) ?_
  refine bsN (vs := [_, _]) h (.cons (by rfl) (by rfl) (.cons (by rfl) (by rfl) .nil)) (by rfl) (by rfl) (by decide) (by decide) (by decide) fun v14 w h => ?_
  refine cl1 h n_ref26_SameDues (cc14 h.ext (by first | exact (qZ 5 h rfl) | assumption) (by first | exact (qZ 0 h rfl) | assumption)) fun w h => ?_
  refine Bn_eqT (by omega) (Gd_T (Gd_T (Bn_eqT (by omega) (Pick_T (Gd_T (Gd_T (Bn_eqT (by omega) (Pick_T (Gd_T (Gd_T (Bn_eqT (by omega) (Pick_T (Gd_T (Gd_T (Bn_eqT (by omega) (Pick_T (Gd_T (Gd_T (Bn_eqT (by omega) (Pick_T (Gd_T (Gd_T (Bn_eqT (by omega) (Pick_T (Gd_T (Pick_T (Gd_T (Pick_T (Gd_T (Gd_T (bsN (vs := [_, _, _, _, _]) h (.cons (by rfl) (by rfl) (.cons (by rfl) (by rfl) (.cons (by rfl) (by rfl) (.cons (by rfl) (by rfl) (.cons (by rfl) (by rfl) .nil))))) (by rfl) (by rfl) (by decide) (by decide) (by decide) fun v15 w h => ?_)))))))))))))))))))))))))))))))
  refine Gd_T (cl1 h n_ref26_Same (cc13 h.ext (by first | exact (qZ 7 h rfl) | assumption) (by first | exact (qZ 0 h rfl) | assumption)) fun w h => ?_)
  refine Pick_T (Gd_T (Gd_T (bsN (vs := [_, _, _, _]) h (.cons (by rfl) (by rfl) (.cons (by rfl) (by rfl) (.cons (by rfl) (by rfl) (.cons (by rfl) (by rfl) .nil)))) (by rfl) (by rfl) (by decide) (by decide) (by decide) fun v16 w h => ?_)))
  refine Gd_T (cl1 h n_ref26_Same (cc12 h.ext (by first | exact (qZ 6 h rfl) | assumption) (by first | exact (qZ 0 h rfl) | assumption)) fun w h => ?_)
  refine Pick_T (Gd_T (ldA h 12 rfl rfl ?_))
  refine Gd_T (cl1 h n_contract_Valid (cc9 h.ext) fun w h => ?_)
  refine Pick_T (Gd_T (bdS PC.nil (by rfl) ?_))
  refine Gd_T (cl1 h n_contract_Valid (cc10 h.ext) fun w h => ?_)
  refine Gd_T (Un_F (Pick_T ?_))
  exact Ret.mk ⟨h.ext, rfl⟩
 clear hK
 replace h := h.dr
 refine dlA h 4 rfl rfl ?_
 refine cl1 h n_law26_of (cc2 h.ext) fun w h => ?_
 refine klA h 4 rfl rfl ?_
 refine cl1 h n_law26_of (cc4 h.ext) fun w h => ?_
 refine klA h 4 rfl rfl ?_
 refine cl1 h n_law26_of (cc4 h.ext) fun w h => ?_
 refine klA h 4 rfl rfl ?_
 refine cl1 h n_law26_of (cc4 h.ext) fun w h => ?_
 refine klA h 4 rfl rfl ?_
 refine ⟨?_, ?_⟩
 refine bsN (vs := [_, _, _, _]) h (.cons (by rfl) (by rfl) (.cons (by rfl) (by rfl) (.cons (by rfl) (by rfl) (.cons (by rfl) (by rfl) .nil)))) (by rfl) (by rfl) (by decide) (by decide) (by decide) fun v10 w h => ?_
 refine klA h 5 rfl rfl ?_
 refine dbS (PC.cons (by rfl) (PC.cons (by rfl) (PC.cons (by first | assumption | exact qY 0 h rfl | exact qY 1 h rfl | exact qY 2 h rfl | exact qY 3 h rfl | exact qY 4 h rfl) PC.nil))) (by rfl) ?_
 refine cl1 h n_law26_of (cc4 h.ext) fun w h => ?_
 refine klA h 5 rfl rfl ?_
 refine cl1 h n_law26_of (cc2 h.ext) fun w h => ?_
 refine klA h 5 rfl rfl ?_
 refine cl1 h n_law26_of (cc4 h.ext) fun w h => ?_
 refine klA h 5 rfl rfl ?_
 refine cl1 h n_law26_of (cc2 h.ext) fun w h => ?_
 refine klA h 5 rfl rfl ?_
 refine bsN (vs := [_, _, _, _]) h (.cons (by rfl) (by rfl) (.cons (by rfl) (by rfl) (.cons (by rfl) (by rfl) (.cons (by rfl) (by rfl) .nil)))) (by rfl) (by rfl) (by decide) (by decide) (by decide) fun v11 w h => ?_
 refine klA h 6 rfl rfl ?_
 refine dbS (PC.cons (by rfl) (PC.cons (by rfl) (PC.cons (by first | assumption | exact qY 0 h rfl | exact qY 1 h rfl | exact qY 2 h rfl | exact qY 3 h rfl | exact qY 4 h rfl | exact qY 5 h rfl) PC.nil))) (by rfl) ?_
 refine bsN (vs := [_, _]) h (.cons (by rfl) (by rfl) (.cons (by rfl) (by rfl) .nil)) (by rfl) (by rfl) (by decide) (by decide) (by decide) fun v12 w h => ?_
 refine klA h 7 rfl rfl ?_
 refine clR h n_contract_Bill (cr5 h.ext (by first | exact (qZ 0 h rfl) | assumption) (by first | exact (qZ 0 h rfl) | exact (qZ 1 h rfl) | exact (qZ 2 h rfl) | exact (qZ 3 h rfl) | exact (qZ 4 h rfl) | exact (qZ 5 h rfl) | exact (qZ 6 h rfl) | exact (qZ 7 h rfl) | assumption) (by first | exact (qZ 0 h rfl) | exact (qZ 1 h rfl) | exact (qZ 2 h rfl) | exact (qZ 3 h rfl) | exact (qZ 4 h rfl) | exact (qZ 5 h rfl) | exact (qZ 6 h rfl) | exact (qZ 7 h rfl) | assumption)) fun v13 w h => ?_
 refine ExP2 ?_
 exact lf1 _ _ (h.pick [0, 4, 5, 6, 7, 8] (by decide) rfl)
 refine cl1 h n_law26_of (cc4 h.ext) fun w h => ?_
 refine klA h 4 rfl rfl ?_
 refine ⟨?_, ?_⟩
 refine bsN (vs := [_, _, _, _]) h (.cons (by rfl) (by rfl) (.cons (by rfl) (by rfl) (.cons (by rfl) (by rfl) (.cons (by rfl) (by rfl) .nil)))) (by rfl) (by rfl) (by decide) (by decide) (by decide) fun v10 w h => ?_
 refine klA h 5 rfl rfl ?_
 refine dbS (PC.cons (by rfl) (PC.cons (by rfl) (PC.cons (by first | assumption | exact qY 0 h rfl | exact qY 1 h rfl | exact qY 2 h rfl | exact qY 3 h rfl | exact qY 4 h rfl) PC.nil))) (by rfl) ?_
 refine cl1 h n_law26_of (cc2 h.ext) fun w h => ?_
 refine klA h 5 rfl rfl ?_
 refine cl1 h n_law26_of (cc4 h.ext) fun w h => ?_
 refine klA h 5 rfl rfl ?_
 refine cl1 h n_law26_of (cc2 h.ext) fun w h => ?_
 refine klA h 5 rfl rfl ?_
 refine bsN (vs := [_, _, _, _]) h (.cons (by rfl) (by rfl) (.cons (by rfl) (by rfl) (.cons (by rfl) (by rfl) (.cons (by rfl) (by rfl) .nil)))) (by rfl) (by rfl) (by decide) (by decide) (by decide) fun v11 w h => ?_
 refine klA h 6 rfl rfl ?_
 refine dbS (PC.cons (by rfl) (PC.cons (by rfl) (PC.cons (by first | assumption | exact qY 0 h rfl | exact qY 1 h rfl | exact qY 2 h rfl | exact qY 3 h rfl | exact qY 4 h rfl | exact qY 5 h rfl) PC.nil))) (by rfl) ?_
 refine bsN (vs := [_, _]) h (.cons (by rfl) (by rfl) (.cons (by rfl) (by rfl) .nil)) (by rfl) (by rfl) (by decide) (by decide) (by decide) fun v12 w h => ?_
 refine klA h 7 rfl rfl ?_
 refine clR h n_contract_Bill (cr5 h.ext (by first | exact (qZ 0 h rfl) | assumption) (by first | exact (qZ 0 h rfl) | exact (qZ 1 h rfl) | exact (qZ 2 h rfl) | exact (qZ 3 h rfl) | exact (qZ 4 h rfl) | exact (qZ 5 h rfl) | exact (qZ 6 h rfl) | exact (qZ 7 h rfl) | assumption) (by first | exact (qZ 0 h rfl) | exact (qZ 1 h rfl) | exact (qZ 2 h rfl) | exact (qZ 3 h rfl) | exact (qZ 4 h rfl) | exact (qZ 5 h rfl) | exact (qZ 6 h rfl) | exact (qZ 7 h rfl) | assumption)) fun v13 w h => ?_
 refine ExP2 ?_
 exact lf1 _ _ (h.pick [0, 4, 5, 6, 7, 8] (by decide) rfl)
 refine cl1 h n_law26_of (cc2 h.ext) fun w h => ?_
 refine klA h 4 rfl rfl ?_
 refine ⟨?_, ?_⟩
 refine bsN (vs := [_, _, _, _]) h (.cons (by rfl) (by rfl) (.cons (by rfl) (by rfl) (.cons (by rfl) (by rfl) (.cons (by rfl) (by rfl) .nil)))) (by rfl) (by rfl) (by decide) (by decide) (by decide) fun v10 w h => ?_
 refine klA h 5 rfl rfl ?_
 refine dbS (PC.cons (by rfl) (PC.cons (by rfl) (PC.cons (by first | assumption | exact qY 0 h rfl | exact qY 1 h rfl | exact qY 2 h rfl | exact qY 3 h rfl | exact qY 4 h rfl) PC.nil))) (by rfl) ?_
 refine cl1 h n_law26_of (cc4 h.ext) fun w h => ?_
 refine klA h 5 rfl rfl ?_
 refine cl1 h n_law26_of (cc2 h.ext) fun w h => ?_
 refine klA h 5 rfl rfl ?_
 refine bsN (vs := [_, _, _, _]) h (.cons (by rfl) (by rfl) (.cons (by rfl) (by rfl) (.cons (by rfl) (by rfl) (.cons (by rfl) (by rfl) .nil)))) (by rfl) (by rfl) (by decide) (by decide) (by decide) fun v11 w h => ?_
 refine klA h 6 rfl rfl ?_
 refine dbS (PC.cons (by rfl) (PC.cons (by rfl) (PC.cons (by first | assumption | exact qY 0 h rfl | exact qY 1 h rfl | exact qY 2 h rfl | exact qY 3 h rfl | exact qY 4 h rfl | exact qY 5 h rfl) PC.nil))) (by rfl) ?_
 refine bsN (vs := [_, _]) h (.cons (by rfl) (by rfl) (.cons (by rfl) (by rfl) .nil)) (by rfl) (by rfl) (by decide) (by decide) (by decide) fun v12 w h => ?_
 refine klA h 7 rfl rfl ?_
 refine clR h n_contract_Bill (cr5 h.ext (by first | exact (qZ 0 h rfl) | assumption) (by first | exact (qZ 0 h rfl) | exact (qZ 1 h rfl) | exact (qZ 2 h rfl) | exact (qZ 3 h rfl) | exact (qZ 4 h rfl) | exact (qZ 5 h rfl) | exact (qZ 6 h rfl) | exact (qZ 7 h rfl) | assumption) (by first | exact (qZ 0 h rfl) | exact (qZ 1 h rfl) | exact (qZ 2 h rfl) | exact (qZ 3 h rfl) | exact (qZ 4 h rfl) | exact (qZ 5 h rfl) | exact (qZ 6 h rfl) | exact (qZ 7 h rfl) | assumption)) fun v13 w h => ?_
 refine ExP2 ?_
 exact lf1 _ _ (h.pick [0, 4, 5, 6, 7, 8] (by decide) rfl)
 refine cl1 h n_law26_of (cc4 h.ext) fun w h => ?_
 refine klA h 4 rfl rfl ?_
 refine ⟨?_, ?_⟩
 refine bsN (vs := [_, _, _, _]) h (.cons (by rfl) (by rfl) (.cons (by rfl) (by rfl) (.cons (by rfl) (by rfl) (.cons (by rfl) (by rfl) .nil)))) (by rfl) (by rfl) (by decide) (by decide) (by decide) fun v10 w h => ?_
 refine klA h 5 rfl rfl ?_
 refine dbS (PC.cons (by rfl) (PC.cons (by rfl) (PC.cons (by first | assumption | exact qY 0 h rfl | exact qY 1 h rfl | exact qY 2 h rfl | exact qY 3 h rfl | exact qY 4 h rfl) PC.nil))) (by rfl) ?_
 refine cl1 h n_law26_of (cc2 h.ext) fun w h => ?_
 refine klA h 5 rfl rfl ?_
 refine bsN (vs := [_, _, _, _]) h (.cons (by rfl) (by rfl) (.cons (by rfl) (by rfl) (.cons (by rfl) (by rfl) (.cons (by rfl) (by rfl) .nil)))) (by rfl) (by rfl) (by decide) (by decide) (by decide) fun v11 w h => ?_
 refine klA h 6 rfl rfl ?_
 refine dbS (PC.cons (by rfl) (PC.cons (by rfl) (PC.cons (by first | assumption | exact qY 0 h rfl | exact qY 1 h rfl | exact qY 2 h rfl | exact qY 3 h rfl | exact qY 4 h rfl | exact qY 5 h rfl) PC.nil))) (by rfl) ?_
 refine bsN (vs := [_, _]) h (.cons (by rfl) (by rfl) (.cons (by rfl) (by rfl) .nil)) (by rfl) (by rfl) (by decide) (by decide) (by decide) fun v12 w h => ?_
 refine klA h 7 rfl rfl ?_
 refine clR h n_contract_Bill (cr5 h.ext (by first | exact (qZ 0 h rfl) | assumption) (by first | exact (qZ 0 h rfl) | exact (qZ 1 h rfl) | exact (qZ 2 h rfl) | exact (qZ 3 h rfl) | exact (qZ 4 h rfl) | exact (qZ 5 h rfl) | exact (qZ 6 h rfl) | exact (qZ 7 h rfl) | assumption) (by first | exact (qZ 0 h rfl) | exact (qZ 1 h rfl) | exact (qZ 2 h rfl) | exact (qZ 3 h rfl) | exact (qZ 4 h rfl) | exact (qZ 5 h rfl) | exact (qZ 6 h rfl) | exact (qZ 7 h rfl) | assumption)) fun v13 w h => ?_
 refine ExP2 ?_
 exact lf1 _ _ (h.pick [0, 4, 5, 6, 7, 8] (by decide) rfl)
 refine cl1 h n_law26_of (cc2 h.ext) fun w h => ?_
 refine klA h 4 rfl rfl ?_
 refine ⟨?_, ?_⟩
 refine bsN (vs := [_, _, _, _]) h (.cons (by rfl) (by rfl) (.cons (by rfl) (by rfl) (.cons (by rfl) (by rfl) (.cons (by rfl) (by rfl) .nil)))) (by rfl) (by rfl) (by decide) (by decide) (by decide) fun v10 w h => ?_
 refine klA h 5 rfl rfl ?_
 refine dbS (PC.cons (by rfl) (PC.cons (by rfl) (PC.cons (by first | assumption | exact qY 0 h rfl | exact qY 1 h rfl | exact qY 2 h rfl | exact qY 3 h rfl | exact qY 4 h rfl) PC.nil))) (by rfl) ?_
 refine bsN (vs := [_, _, _, _]) h (.cons (by rfl) (by rfl) (.cons (by rfl) (by rfl) (.cons (by rfl) (by rfl) (.cons (by rfl) (by rfl) .nil)))) (by rfl) (by rfl) (by decide) (by decide) (by decide) fun v11 w h => ?_
 refine klA h 6 rfl rfl ?_
 refine dbS (PC.cons (by rfl) (PC.cons (by rfl) (PC.cons (by first | assumption | exact qY 0 h rfl | exact qY 1 h rfl | exact qY 2 h rfl | exact qY 3 h rfl | exact qY 4 h rfl | exact qY 5 h rfl) PC.nil))) (by rfl) ?_
 refine bsN (vs := [_, _]) h (.cons (by rfl) (by rfl) (.cons (by rfl) (by rfl) .nil)) (by rfl) (by rfl) (by decide) (by decide) (by decide) fun v12 w h => ?_
 refine klA h 7 rfl rfl ?_
 refine clR h n_contract_Bill (cr5 h.ext (by first | exact (qZ 0 h rfl) | assumption) (by first | exact (qZ 0 h rfl) | exact (qZ 1 h rfl) | exact (qZ 2 h rfl) | exact (qZ 3 h rfl) | exact (qZ 4 h rfl) | exact (qZ 5 h rfl) | exact (qZ 6 h rfl) | exact (qZ 7 h rfl) | assumption) (by first | exact (qZ 0 h rfl) | exact (qZ 1 h rfl) | exact (qZ 2 h rfl) | exact (qZ 3 h rfl) | exact (qZ 4 h rfl) | exact (qZ 5 h rfl) | exact (qZ 6 h rfl) | exact (qZ 7 h rfl) | assumption)) fun v13 w h => ?_
 refine ExP2 ?_
 exact lf1 _ _ (h.pick [0, 4, 5, 6, 7, 8] (by decide) rfl)
 refine bsN (vs := [_, _, _, _]) h (.cons (by rfl) (by rfl) (.cons (by rfl) (by rfl) (.cons (by rfl) (by rfl) (.cons (by rfl) (by rfl) .nil)))) (by rfl) (by rfl) (by decide) (by decide) (by decide) fun v10 w h => ?_
 refine klA h 5 rfl rfl ?_
 refine dbS (PC.cons (by rfl) (PC.cons (by rfl) (PC.cons (by first | assumption | exact qY 0 h rfl | exact qY 1 h rfl | exact qY 2 h rfl | exact qY 3 h rfl | exact qY 4 h rfl) PC.nil))) (by rfl) ?_
 refine bsN (vs := [_, _, _, _]) h (.cons (by rfl) (by rfl) (.cons (by rfl) (by rfl) (.cons (by rfl) (by rfl) (.cons (by rfl) (by rfl) .nil)))) (by rfl) (by rfl) (by decide) (by decide) (by decide) fun v11 w h => ?_
 refine klA h 6 rfl rfl ?_
 refine dbS (PC.cons (by rfl) (PC.cons (by rfl) (PC.cons (by first | assumption | exact qY 0 h rfl | exact qY 1 h rfl | exact qY 2 h rfl | exact qY 3 h rfl | exact qY 4 h rfl | exact qY 5 h rfl) PC.nil))) (by rfl) ?_
 refine bsN (vs := [_, _]) h (.cons (by rfl) (by rfl) (.cons (by rfl) (by rfl) .nil)) (by rfl) (by rfl) (by decide) (by decide) (by decide) fun v12 w h => ?_
 refine klA h 7 rfl rfl ?_
 refine clR h n_contract_Bill (cr5 h.ext (by first | exact (qZ 0 h rfl) | assumption) (by first | exact (qZ 0 h rfl) | exact (qZ 1 h rfl) | exact (qZ 2 h rfl) | exact (qZ 3 h rfl) | exact (qZ 4 h rfl) | exact (qZ 5 h rfl) | exact (qZ 6 h rfl) | exact (qZ 7 h rfl) | assumption) (by first | exact (qZ 0 h rfl) | exact (qZ 1 h rfl) | exact (qZ 2 h rfl) | exact (qZ 3 h rfl) | exact (qZ 4 h rfl) | exact (qZ 5 h rfl) | exact (qZ 6 h rfl) | exact (qZ 7 h rfl) | assumption)) fun v13 w h => ?_
 refine ExP2 ?_
 exact lf1 _ _ (h.pick [0, 4, 5, 6, 7, 8] (by decide) rfl)
end Go.Proofs.YtjmdnjnjepinoaaGreatDoor
