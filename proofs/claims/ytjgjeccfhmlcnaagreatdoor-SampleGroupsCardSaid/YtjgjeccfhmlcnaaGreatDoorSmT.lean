/-
  Contracts and plain lemmas. By an AI agent.
-/
import Derived.Test.YtjgjeccfhmlcnaaGreatDoorSmL
import Derived.Test.YtjgjeccfhmlcnaaGreatDoorEngW
set_option linter.unusedSimpArgs false
set_option linter.unusedVariables false
set_option linter.unusedSectionVars false
namespace Go.Proofs.YtjgjeccfhmlcnaaGreatDoor
open Go Go.Eng Go.Proofs Go.Num Go.RowKit
set_option maxRecDepth 100000
abbrev fU (n : Int) : Value := .int .u32 n
abbrev tWd : TypeId := 165
abbrev tA32 : TypeId := 192
theorem u8_ex (z : Int) : ∃ b : UInt8, Value.int .u8 (IntKind.u8.wrap z) = .int .u8 (b.toNat : Int) := by
 have e : IntKind.u8.wrap z = z % 256 := by simp [IntKind.wrap, IntKind.bits, IntKind.signed]
 have h0 := Int.emod_nonneg z (show (256 : Int) ≠ 0 by decide)
 have h1 := Int.emod_lt_of_pos z (show (0 : Int) < 256 by decide)
 refine ⟨UInt8.ofNat (z % 256).toNat, ?_⟩
 rw [e, UInt8.toNat_ofNat']
 congr 1
 omega
theorem ix_u {a0 a1 a2 a3 a4 a5 a6 a7 : Int} {j : Nat} {w : World} {K : Value → World → Prop} (hj : j < 8) (hk : ∀ y : Int, K (fU y) w) : Ix Tryz.prog tWd (.agg #[fU a0, fU a1, fU a2, fU a3, fU a4, fU a5, fU a6, fU a7]) (.int .i64 (j : Int)) w K := by
 rcases j with _ | _ | _ | _ | _ | _ | _ | _ | j
 all_goals first | omega | (((try simp -dsimp [go_sem, Tryz.underlying165]); repeat (simp -dsimp (disch := omega) only [gL, gI]; try simp -dsimp [go_sem, Tryz.underlying165])); exact hk _)
set_option maxHeartbeats 4000000 in
theorem c_digest {w0 : World} {a0 a1 a2 a3 a4 a5 a6 a7 : Int} : Calls Tryz.prog 124 #[.agg #[fU a0, fU a1, fU a2, fU a3, fU a4, fU a5, fU a6, fU a7]] w0 (Ret fun r w' => Ext w0 w' ∧ ∃ bs : List UInt8, bs.length = 32 ∧ r = str bs) := by
 apply e_digest_words_digest
 unfold s_digest_words_digest
 have h := Hp.init [] w0
 refine bxA h fun g1 w h => ?_
 refine alS h fun g2 w h => ?_
 refine ldA h 1 rfl rfl ?_
 have z32 : u8s (List.replicate 32 0) = List.replicate 32 (.int .u8 0) := rfl
 refine Lp1.mkK (fun i W => ∃ (j : Nat) (bs : List UInt8), j ≤ 8 ∧ i = .int .i64 j ∧ bs.length = 32 ∧ Hp [] w0 W [bx g2 tA32 (u8s bs)]) (fun i _ => match i with | .int _ i' => 8 - i'.toNat | _ => 0) ⟨0, List.replicate 32 0, by omega, rfl, by simp, by rw [z32]; exact h.pick [0] (by decide) rfl⟩ ?_
 clear h
 rintro _ W ⟨j, bs, hj, rfl, hbs, h⟩ K hK
 by_cases hj8 : j < 8
 ·refine Bn_ltT (by omega) (If_T (ix_u hj8 fun y => ?_))
  refine Lp1.mkK (fun i W => ∃ (k : Nat) (bs : List UInt8), k ≤ 4 ∧ i = .int .i64 k ∧ bs.length = 32 ∧ Hp [] w0 W [bx g2 tA32 (u8s bs)]) (fun i _ => match i with | .int _ i' => 4 - i'.toNat | _ => 0) ⟨0, bs, by omega, rfl, hbs, h⟩ ?_
  clear h hbs bs
  rintro _ W ⟨k, bs, hk, rfl, hbs, h⟩ K2 hK2
  by_cases hk4 : k < 4
  ·refine Bn_ltT (by omega) (If_T (Bn_mu (by omega) (by omega) (Bn_ad (by omega) (by omega) (Bn_mu (by omega) (by omega) (Bn_su (by omega) (by omega) (Bg_shr (by omega) rfl ?_))))))
   refine Cv_i (by rw [Tryz.underlying163]; rfl) Tryz.underlying5 rfl ?_
   obtain ⟨b, hb⟩ := u8_ex (y.fdiv (2 ^ min (24 - 8 * (k : Int)).toNat IntKind.u32.bits))
   rw [hb, show (4 * (j : Int) + (k : Int)) = ((4 * j + k : Nat) : Int) by omega]
   refine iaA (by omega) ?_
   have hw : wr (0 + (4 * j + k) * 1) [.int .u8 (b.toNat : Int)] (u8s bs) = some (u8s (bs.set (4 * j + k) b)) := by
    have hl : (u8s bs).length = 32 := by rw [List.length_map]; exact hbs
    have e0 : 0 + (4 * j + k) * 1 = 4 * j + k := by omega
    have e1 : u8s (bs.set (4 * j + k) b) = (u8s bs).set (4 * j + k) (.int .u8 (b.toNat : Int)) := List.map_set
    unfold wr
    rw [wrO_eq, if_pos (by show _ + 1 ≤ _; omega), e0, e1, List.set_eq_take_append_cons_drop, if_pos (by omega)]
    simp
   refine st1 h 0 rfl rfl rfl hw fun w h => ?_
   refine Bn_ad (by omega) (by omega) ?_
   dsimp only [List.set] at h
   exact hK2 _ _ ⟨k + 1, _, by omega, rfl, by rw [List.length_set]; exact hbs, h⟩ (by show 4 - ((k : Int) + 1).toNat < 4 - (k : Int).toNat; omega)
  ·refine Bn_ltF (by omega) (If_F (Bn_ad (by omega) (by omega) ?_))
   exact hK _ _ ⟨j + 1, bs, by omega, rfl, hbs, h⟩ (by show 8 - ((j : Int) + 1).toNat < 8 - (j : Int).toNat; omega)
 ·refine Bn_ltF (by omega) (If_F (scA ?_))
  refine Cv_s (l := bs) ?_ ?_
  ·refine ⟨by rw [List.length_map, Nat.mul_one], .inr ⟨g2, 0, 32, by rw [hbs], by omega, ?_⟩⟩
   intro i x hx
   have h1 : Blk W g2 tA32 (u8s bs) := h.get (i := 0) rfl
   unfold Blk at h1
   simp [World.cell?, h1, hx]
  exact Ret.mk ⟨h.ext, bs, hbs, rfl⟩
abbrev tA64 : TypeId := 188
abbrev us (l : List Int) : List Value := l.map fU
theorem wr_us {l : List Int} {j : Nat} {y : Int} (hj : j < l.length) : wr (0 + j * 1) [fU y] (us l) = some (us (l.set j y)) := by
 have hl : (us l).length = l.length := List.length_map _
 have e0 : 0 + j * 1 = j := by omega
 have e1 : us (l.set j y) = (us l).set j (fU y) := List.map_set
 unfold wr
 rw [wrO_eq, if_pos (by show _ + 1 ≤ _; omega), e0, e1, List.set_eq_take_append_cons_drop, if_pos (by omega)]
 simp
theorem usG {l : List Int} (hl : l.length = 64) {z : Int} (h0 : 0 ≤ z) (h1 : z < 64) : ∃ n : Int, (us l)[0 + z.toNat * 1]? = some (fU n) := by
 have hlt : 0 + z.toNat * 1 < l.length := by omega
 exact ⟨_, by rw [List.getElem?_map, List.getElem?_eq_getElem hlt]; rfl⟩
theorem cut_us {l : List Int} (hl : l.length = 64) : cut 0 64 (us l) = some (us l) := by
 have e : (us l).length = 64 := by rw [List.length_map]; exact hl
 unfold cut
 simp only [dropO_eq, takeO_eq]
 simp [e]
 rw [List.take_of_length_le (by simp; omega)]
theorem wr_all {l : List Int} : wr 0 (us l) (us l) = some (us l) := by
 unfold wr
 rw [wrO_eq, if_pos (by omega)]
 simp
section
variable {w0 : World} {v : Value} {bs : List UInt8} (hv : SlC w0 1 v 64 (u8s bs)) (hb : bs.length = 64)
include hv hb
omit hv in
theorem segB {z : Int} (h0 : 0 ≤ z) (h1 : z < 64) : ∃ n : Int, Seg (u8s bs) (z.toNat * 1) [.int .u8 n] := by
 have hlt : z.toNat < bs.length := by omega
 have e : (u8s bs)[z.toNat]? = some (.int .u8 ((bs[z.toNat]).toNat : Int)) := by rw [List.getElem?_map, List.getElem?_eq_getElem hlt]; rfl
 exact ⟨_, seg_one e⟩
set_option maxHeartbeats 8000000 in
theorem c_sched : Calls Tryz.prog 148 #[v] w0 (Ret fun r w' => Ext w0 w' ∧ ∃ l : List Int, l.length = 64 ∧ r = .agg (us l).toArray) := by
 apply e_digest_schedule
 unfold s_digest_schedule
 have h := Hp.init [] w0
 refine alS h fun g1 w h => ?_
 refine Lp1.mkK (fun i W => ∃ (j : Nat) (l : List Int), j ≤ 16 ∧ i = .int .i64 j ∧ l.length = 64 ∧ Hp [] w0 W [bx g1 tA64 (us l)]) (fun i _ => match i with | .int _ i' => 16 - i'.toNat | _ => 0) ⟨0, List.replicate 64 0, by omega, rfl, by simp, h⟩ ?_
 clear h
 rintro _ W ⟨j, l, hj, rfl, hl, h⟩ K hK
 by_cases hj16 : j < 16
 ·obtain ⟨n1, g1'⟩ := segB hb (z := 4 * (j : Int)) (by omega) (by omega)
  obtain ⟨n2, g2'⟩ := segB hb (z := 4 * (j : Int) + 1) (by omega) (by omega)
  obtain ⟨n3, g3'⟩ := segB hb (z := 4 * (j : Int) + 2) (by omega) (by omega)
  obtain ⟨n4, g4'⟩ := segB hb (z := 4 * (j : Int) + 3) (by omega) (by omega)
  refine Bn_ltT (by omega) (If_T ?_)
  replace h := h.dr
  refine Dv_mu (by omega) (by omega) (diHz h ‹_› (by omega) (by omega) fun zb zo zk zv zc => ?_)
  refine dh0 h ‹_› ‹_› (by rfl) ?_
  refine Dg_cv (by rw [Tryz.underlying5]; rfl) Tryz.underlying163 ?_
  refine Dg_shl (by decide) rfl ?_
  refine Dv_mu (by omega) (by omega) (Dv_ad (by omega) (by omega) (diHz h ‹_› (by omega) (by omega) fun zb zo zk zv zc => ?_))
  refine dh0 h ‹_› ‹_› (by rfl) ?_
  refine Dg_cv (by rw [Tryz.underlying5]; rfl) Tryz.underlying163 ?_
  refine Dg_shl (by decide) rfl ?_
  refine Dg_or ?_
  refine Dv_mu (by omega) (by omega) (Dv_ad (by omega) (by omega) (diHz h ‹_› (by omega) (by omega) fun zb zo zk zv zc => ?_))
  refine dh0 h ‹_› ‹_› (by rfl) ?_
  refine Dg_cv (by rw [Tryz.underlying5]; rfl) Tryz.underlying163 ?_
  refine Dg_shl (by decide) rfl ?_
  refine Dg_or ?_
  refine Dv_mu (by omega) (by omega) (Dv_ad (by omega) (by omega) (diHz h ‹_› (by omega) (by omega) fun zb zo zk zv zc => ?_))
  refine dh0 h ‹_› ‹_› (by rfl) ?_
  refine Dg_cv (by rw [Tryz.underlying5]; rfl) Tryz.underlying163 ?_
  refine Dg_or ?_
  refine diA (by omega) ?_
  refine st1 h 0 rfl rfl rfl (wr_us (by omega)) fun w h => ?_
  refine Bn_ad (by omega) (by omega) ?_
  dsimp only [List.set] at h
  exact hK _ _ ⟨j + 1, _, by omega, rfl, by rw [List.length_set]; exact hl, h⟩ (by show 16 - ((j : Int) + 1).toNat < 16 - (j : Int).toNat; omega)
 ·refine Bn_ltF (by omega) (If_F (Lp1.mkK (fun i W => ∃ (k : Nat) (l : List Int), 16 ≤ k ∧ k ≤ 64 ∧ i = .int .i64 k ∧ l.length = 64 ∧ Hp [] w0 W [bx g1 tA64 (us l)]) (fun i _ => match i with | .int _ i' => 64 - i'.toNat | _ => 0) ⟨16, l, by omega, by omega, rfl, hl, h⟩ ?_))
  clear h hl hK l
  rintro _ W ⟨k, l, hk0, hk, rfl, hl, h⟩ K hK
  by_cases hk64 : k < 64
  ·obtain ⟨m1, q1⟩ := usG hl (z := (k : Int) - 15) (by omega) (by omega)
   obtain ⟨m2, q2⟩ := usG hl (z := (k : Int) - 2) (by omega) (by omega)
   obtain ⟨m3, q3⟩ := usG hl (z := (k : Int) - 16) (by omega) (by omega)
   obtain ⟨m4, q4⟩ := usG hl (z := (k : Int) - 7) (by omega) (by omega)
   refine Bn_ltT (by omega) (If_T ?_)
   replace h := h.dr
   refine Dv_su (by omega) (by omega) (diZ (by omega) (by omega) ?_)
   refine dl1 h 0 rfl q1 ?_
   refine Dv_su (by omega) (by omega) (diZ (by omega) (by omega) ?_)
   refine dl1 h 0 rfl q2 ?_
   replace h := h.dr
   refine Dv_su (by omega) (by omega) (diZ (by omega) (by omega) ?_)
   refine dl1 h 0 rfl q3 ?_
   refine Dg_shr (by decide) rfl ?_
   refine Dv_su (by omega) (by omega) (diZ (by omega) (by omega) ?_)
   refine dl1 h 0 rfl q4 ?_
   refine Dg_shr (by decide) rfl ?_
   refine ⟨?_, ?_⟩
   ·refine bsN (vs := [_, _]) h (.cons (by rfl) (by rfl) (.cons (by rfl) (by rfl) .nil)) (by rfl) (by rfl) (by decide) (by decide) (by decide) fun v1 w h => ?_
    refine kl1 h 1 rfl q3 ?_
    refine kl1 h 1 rfl q4 ?_
    refine ⟨?_, ?_⟩
    ·refine Cl_i n_digest_mixed (c_mixed (l := [7, 18]) (qZ 0 h rfl) (by decide) (by decide)) ?_
     rintro _ w2 ⟨x2, y1, rfl⟩
     have h := h.x x2
     refine kl1 h 1 rfl q3 ?_
     refine kl1 h 1 rfl q4 ?_
     refine Dg_xor ?_
     refine Dg_add ?_
     refine Dg_add ?_
     refine bsN (vs := [_, _]) h (.cons (by rfl) (by rfl) (.cons (by rfl) (by rfl) .nil)) (by rfl) (by rfl) (by decide) (by decide) (by decide) fun v2 w h => ?_
     refine kl1 h 2 rfl q3 ?_
     refine kl1 h 2 rfl q4 ?_
     refine Cl_i n_digest_mixed (c_mixed (l := [17, 19]) (qZ 0 h rfl) (by decide) (by decide)) ?_
     rintro _ w3 ⟨x3, y2, rfl⟩
     have h := h.x x3
     refine kl1 h 2 rfl q3 ?_
     refine kl1 h 2 rfl q4 ?_
     refine Dg_xor ?_
     refine Dg_add ?_
     refine diA (by omega) ?_
     refine st1 h 2 rfl rfl rfl (wr_us (by omega)) fun w h => ?_
     refine Bn_ad (by omega) (by omega) ?_
     dsimp only [List.set] at h
     exact hK _ _ ⟨k + 1, _, by omega, by omega, rfl, by rw [List.length_set]; exact hl, h.drop 2⟩ (by show 64 - ((k : Int) + 1).toNat < 64 - (k : Int).toNat; omega)
    ·refine bsN (vs := [_, _]) h (.cons (by rfl) (by rfl) (.cons (by rfl) (by rfl) .nil)) (by rfl) (by rfl) (by decide) (by decide) (by decide) fun v2 w h => ?_
     refine kl1 h 2 rfl q3 ?_
     refine kl1 h 2 rfl q4 ?_
     refine Cl_i n_digest_mixed (c_mixed (l := [7, 18]) (qZ 1 h rfl) (by decide) (by decide)) ?_
     rintro _ w2 ⟨x2, y1, rfl⟩
     have h := h.x x2
     refine kl1 h 2 rfl q3 ?_
     refine kl1 h 2 rfl q4 ?_
     refine Dg_xor ?_
     refine Dg_add ?_
     refine Dg_add ?_
     refine Cl_i n_digest_mixed (c_mixed (l := [17, 19]) (qZ 0 h rfl) (by decide) (by decide)) ?_
     rintro _ w3 ⟨x3, y2, rfl⟩
     have h := h.x x3
     refine kl1 h 2 rfl q3 ?_
     refine kl1 h 2 rfl q4 ?_
     refine Dg_xor ?_
     refine Dg_add ?_
     refine diA (by omega) ?_
     refine st1 h 2 rfl rfl rfl (wr_us (by omega)) fun w h => ?_
     refine Bn_ad (by omega) (by omega) ?_
     dsimp only [List.set] at h
     exact hK _ _ ⟨k + 1, _, by omega, by omega, rfl, by rw [List.length_set]; exact hl, h.drop 2⟩ (by show 64 - ((k : Int) + 1).toNat < 64 - (k : Int).toNat; omega)
   ·refine bsN (vs := [_, _]) h (.cons (by rfl) (by rfl) (.cons (by rfl) (by rfl) .nil)) (by rfl) (by rfl) (by decide) (by decide) (by decide) fun v1 w h => ?_
    refine kl1 h 1 rfl q3 ?_
    refine kl1 h 1 rfl q4 ?_
    refine bsN (vs := [_, _]) h (.cons (by rfl) (by rfl) (.cons (by rfl) (by rfl) .nil)) (by rfl) (by rfl) (by decide) (by decide) (by decide) fun v2 w h => ?_
    refine kl1 h 2 rfl q3 ?_
    refine kl1 h 2 rfl q4 ?_
    refine Cl_i n_digest_mixed (c_mixed (l := [7, 18]) (qZ 0 h rfl) (by decide) (by decide)) ?_
    rintro _ w2 ⟨x2, y1, rfl⟩
    have h := h.x x2
    refine kl1 h 2 rfl q3 ?_
    refine kl1 h 2 rfl q4 ?_
    refine Dg_xor ?_
    refine Dg_add ?_
    refine Dg_add ?_
    refine Cl_i n_digest_mixed (c_mixed (l := [17, 19]) (qZ 1 h rfl) (by decide) (by decide)) ?_
    rintro _ w3 ⟨x3, y2, rfl⟩
    have h := h.x x3
    refine kl1 h 2 rfl q3 ?_
    refine kl1 h 2 rfl q4 ?_
    refine Dg_xor ?_
    refine Dg_add ?_
    refine diA (by omega) ?_
    refine st1 h 2 rfl rfl rfl (wr_us (by omega)) fun w h => ?_
    refine Bn_ad (by omega) (by omega) ?_
    dsimp only [List.set] at h
    exact hK _ _ ⟨k + 1, _, by omega, by omega, rfl, by rw [List.length_set]; exact hl, h.drop 2⟩ (by show 64 - ((k : Int) + 1).toNat < 64 - (k : Int).toNat; omega)
  ·refine Bn_ltF (by omega) (If_F (Eng.ldA h 0 rfl (cut_us hl) ?_))
   refine stA h 0 rfl (by rw [List.length_map]; exact hl) (by simp [Value.oneCell']) wr_all fun w h => ?_
   refine rcA h 0 rfl (cut_us hl) ?_
   exact Ret.mk ⟨h.ext, l, hl, rfl⟩
end
theorem ix_us {l : List Int} {j : Nat} {w : World} {K : Value → World → Prop} (hj : j < 64) (hl : l.length = 64) (hk : ∀ y : Int, K (fU y) w) : Ix Tryz.prog tA64 (.agg (us l).toArray) (.int .i64 (j : Int)) w K := by
 have hlt : j < l.length := by omega
 refine V_of ?_ (hk l[j])
 have ho : One Tryz.prog 163 := inferInstance
 simp [Instr.index, asIntOf, run_underlying Tryz.underlying188, Result.andThen, part, ho.ag, ho.sz, hj, List.getElem?_eq_getElem hlt]
theorem sl_lo {g : Nat} {w : World} {K : Value → Prop} (hk : K (.slice (some ⟨g, 1, none⟩) 7 7)) : Dv Tryz.prog true (Instr.sliceAt tWd (pr g 0) (some (.int .i64 1)) none none) w K := by
 ((try simp -dsimp [go_sem, Tryz.underlying165]); repeat (simp -dsimp (disch := omega) only [gL, gI]; try simp -dsimp [go_sem, Tryz.underlying165]))
 exact hk
theorem sl_hi {g : Nat} {w : World} {K : Value → Prop} (hk : K (.slice (some ⟨g, 0, none⟩) 7 8)) : Dv Tryz.prog true (Instr.sliceAt tWd (pr g 0) none (some (.int .i64 7)) none) w K := by
 ((try simp -dsimp [go_sem, Tryz.underlying165]); repeat (simp -dsimp (disch := omega) only [gL, gI]; try simp -dsimp [go_sem, Tryz.underlying165]))
 exact hk
theorem usH {l : List Int} {j : Nat} (h : j < l.length) : ∃ n : Int, (us l)[0 + j * 1]? = some (fU n) := by
 have hlt : 0 + j * 1 < l.length := by omega
 exact ⟨_, by rw [List.getElem?_map, List.getElem?_eq_getElem hlt]; rfl⟩
theorem ex8 {l : List Int} (h : l.length = 8) : ∃ a0 a1 a2 a3 a4 a5 a6 a7, l = [a0, a1, a2, a3, a4, a5, a6, a7] := by
 rcases l with _ | ⟨a0, _ | ⟨a1, _ | ⟨a2, _ | ⟨a3, _ | ⟨a4, _ | ⟨a5, _ | ⟨a6, _ | ⟨a7, _ | ⟨a8, l⟩⟩⟩⟩⟩⟩⟩⟩⟩ <;> simp at h ⊢
section
variable {W : World} {v : Value} {bs : List UInt8} {rl a : List Int} {gh : Nat} (hv : SlC W 1 v 64 (u8s bs)) (hb : bs.length = 64) (hR : Blk W 2 tA64 (us rl)) (hrl : rl.length = 64) (hg : Blk W gh tWd (us a)) (ha : a.length = 8) (hne : 2 ∉ [gh])
include hv hb hR hrl hg ha hne
set_option maxHeartbeats 8000000 in
theorem c_add : Calls Tryz.prog 123 #[pr gh 0, v] W (Ret fun r w' => r = .tuple #[] ∧ Mo [gh] W w' ∧ ∃ l : List Int, l.length = 8 ∧ Blk w' gh tWd (us l)) := by
 obtain ⟨b0, b1, b2, b3, b4, b5, b6, b7, rfl⟩ := ex8 ha
 apply e_digest_words_add
 unfold s_digest_words_add
 have hkk : ∀ k ∈ (bx gh tWd (us [b0, b1, b2, b3, b4, b5, b6, b7])).ks, k < W.heap.size ∧ (W.heap.size ≤ k ∨ k ∈ [gh]) := fun k hk => by
  have e : k = gh := List.mem_singleton.1 hk
  rw [e]
  exact ⟨hg.lt, .inr (List.mem_singleton.2 rfl)⟩
 have h0 : Hp [gh] W W [bx gh tWd (us [b0, b1, b2, b3, b4, b5, b6, b7])] := (Hp.init [gh] W).nw (bx_at hg) hkk (by simp)
 refine Cl_i n_digest_schedule (c_sched hv hb) ?_
 rintro _ w2 ⟨x2, sc, hsc, rfl⟩
 have h := h0.x x2
 refine alS h fun g4 w h => ?_
 refine stA h 0 rfl (by rw [List.length_map]; exact hsc) (by simp [Value.oneCell']) (vs := us sc) (cs' := us sc) ?_ fun w h => ?_
 ·unfold wr; rw [wrO_eq, if_pos (by simp [hsc])]; simp [hsc]
 refine Nc_ok ?_
 refine ldA h 1 rfl rfl ?_
 refine alS h fun g1 w h => ?_
 refine stA h 0 rfl rfl rfl rfl fun w h => ?_
 refine lgAS h hR hne (cut_us hrl) ?_
 refine Lp1.mkK (fun i w => ∃ (j : Nat) (a0 a1 a2 a3 a4 a5 a6 a7 : Int), j ≤ 64 ∧ i = .int .i64 j ∧ Hp [gh] W w [bx g1 tWd [fU a0, fU a1, fU a2, fU a3, fU a4, fU a5, fU a6, fU a7], bx g4 tA64 (us sc), bx gh tWd (us [b0, b1, b2, b3, b4, b5, b6, b7])]) (fun i _ => match i with | .int _ i' => 64 - i'.toNat | _ => 0) ⟨0, b0, b1, b2, b3, b4, b5, b6, b7, by omega, rfl, h⟩ ?_
 clear h
 rintro _ w ⟨j, a0, a1, a2, a3, a4, a5, a6, a7, hj, rfl, h⟩ K hK
 by_cases hj64 : j < 64
 ·obtain ⟨m1, q1⟩ := usH (l := sc) (j := j) (by omega)
  refine Bn_ltT (by omega) (If_T (ix_us hj64 hrl fun y => ?_))
  replace h := h.dr
  refine diZ (by decide) (by decide) ?_
  refine dl1 h 0 rfl rfl (diZ (by decide) (by decide) ?_)
  refine dl1 h 0 rfl rfl ?_
  replace h := h.dr
  refine diZ (by decide) (by decide) ?_
  refine dl1 h 0 rfl rfl (diZ (by decide) (by decide) ?_)
  refine dl1 h 0 rfl rfl (Dg_and ?_)
  refine Dg_not ?_
  refine diZ (by decide) (by decide) ?_
  refine dl1 h 0 rfl rfl (Dg_and ?_)
  refine Dg_xor ?_
  refine diA (by omega) ?_
  refine dl1 h 1 rfl q1 ?_
  refine bsN (vs := [_, _, _]) h (.cons (by rfl) (by rfl) (.cons (by rfl) (by rfl) (.cons (by rfl) (by rfl) .nil))) (by rfl) (by rfl) (by decide) (by decide) (by decide) fun v1 w h => ?_
  refine kl1 h 1 rfl rfl (kl1 h 1 rfl rfl (kl1 h 1 rfl rfl (kl1 h 2 rfl q1 ?_)))
  refine Cl_i n_digest_mixed (c_mixed (l := [6, 11, 25]) (qZ 0 h rfl) (by decide) (by decide)) ?_
  rintro _ w3 ⟨x3, y1, rfl⟩
  have h := h.x x3
  refine kl1 h 1 rfl rfl (kl1 h 1 rfl rfl (kl1 h 1 rfl rfl (kl1 h 2 rfl q1 ?_)))
  refine Dg_add ?_
  refine Dg_add ?_
  refine Dg_add ?_
  refine Dg_add ?_
  replace h := h.dr
  refine diZ (by decide) (by decide) ?_
  refine dl1 h 1 rfl rfl (Dg_and ?_)
  refine diZ (by decide) (by decide) ?_
  refine dl1 h 1 rfl rfl (Dg_and ?_)
  refine Dg_xor ?_
  refine diZ (by decide) (by decide) ?_
  refine dl1 h 1 rfl rfl (diZ (by decide) (by decide) ?_)
  refine dl1 h 1 rfl rfl (Dg_and ?_)
  refine Dg_xor ?_
  refine bsN (vs := [_, _, _]) h (.cons (by rfl) (by rfl) (.cons (by rfl) (by rfl) (.cons (by rfl) (by rfl) .nil))) (by rfl) (by rfl) (by decide) (by decide) (by decide) fun v2 w h => ?_
  refine kl1 h 2 rfl rfl (kl1 h 2 rfl rfl (kl1 h 2 rfl rfl (kl1 h 2 rfl rfl (Cl_i n_digest_mixed (c_mixed (l := [2, 13, 22]) (qZ 0 h rfl) (by decide) (by decide)) ?_))))
  rintro _ w4 ⟨x4, y2, rfl⟩
  have h := h.x x4
  refine kl1 h 2 rfl rfl (kl1 h 2 rfl rfl (kl1 h 2 rfl rfl (kl1 h 2 rfl rfl (Dg_add ?_))))
  refine sl_lo ?_
  refine sl_hi ?_
  refine cpS h.dr 2 rfl rfl (by simp [Value.oneCell']) rfl fun w h => ?_
  refine Bg_add ?_
  refine iaZ (by decide) (by decide) ?_
  refine Eng.ld1 h 2 rfl rfl ?_
  dsimp only [List.set] at h
  refine Bg_add ?_
  refine iaZ (by decide) (by decide) ?_
  refine st1 h 2 rfl rfl rfl rfl fun w h => ?_
  refine iaZ (by decide) (by decide) ?_
  refine st1 h 2 rfl rfl rfl rfl fun w h => ?_
  refine Bn_ad (by omega) (by omega) ?_
  dsimp only [List.set] at h
  exact hK _ _ ⟨j + 1, _, _, _, _, _, _, _, _, by omega, rfl, h.drop 2⟩ (by show 64 - ((j : Int) + 1).toNat < 64 - (j : Int).toNat; omega)
 ·refine Bn_ltF (by omega) (If_F ?_)
  clear hK
  refine Lp1.mk (fun i w => ∃ (j : Nat) (l : List Int), j ≤ 8 ∧ i = .int .i64 j ∧ l.length = 8 ∧ Hp [gh] W w [bx g1 tWd (us [a0, a1, a2, a3, a4, a5, a6, a7]), bx g4 tA64 (us sc), bx gh tWd (us l)]) (fun i _ => match i with | .int _ i' => 8 - i'.toNat | _ => 0) ⟨0, _, by omega, rfl, rfl, h⟩ ?_
  clear h
  rintro _ w ⟨k, l, hk, rfl, hl, h⟩
  by_cases hk8 : k < 8
  ·obtain ⟨m1, q1⟩ := usH (l := l) (j := k) (by omega)
   obtain ⟨m2, q2⟩ := usH (l := [a0, a1, a2, a3, a4, a5, a6, a7]) (j := k) hk8
   refine Bn_ltT (by omega) (If_T (NcP_ok ?_))
   refine diA (by omega) ?_
   refine dl1 h.dr 2 rfl q1 ?_
   refine diA (by omega) ?_
   refine dl1 h.dr 0 rfl q2 ?_
   refine Dg_add ?_
   refine NcP_ok ?_
   refine diA (by omega) ?_
   refine st1 h.dr 2 rfl rfl rfl (wr_us (by omega)) fun w h => ?_
   refine Bn_ad (by omega) (by omega) ?_
   exact ⟨⟨k + 1, _, by omega, rfl, by rw [List.length_set]; exact hl, h⟩, by show 8 - ((k : Int) + 1).toNat < 8 - (k : Int).toNat; omega⟩
  ·refine Bn_ltF (by omega) (If_F ?_)
   exact Ret.mk ⟨rfl, h.mo, l, hl, h.get (i := 2) rfl⟩
end
abbrev tBc : TypeId := 139
theorem c_Chunk {w0 W : World} {L : List Et} {v : Value} {xs : List Value} (h : Hp [] w0 W L) (hv : SlC W 1 v 64 xs) : Calls Tryz.prog 122 #[v, .int .i64 64] W (Ret fun r w' => ∃ gs gi, r = .func (.func 147) #[] #[pr gs 0, pr gi 0] ∧ Hp [] w0 w' (bx gi 3 [.int .i64 64] :: bx gs tBc [v] :: L)) := by
 apply e_slices_Chunk_byte_byte
 unfold s_slices_Chunk_byte_byte
 refine bx1w h hv fun g1 w h => ?_
 refine bxA h fun g2 w h => ?_
 refine Eng.ld1 h 0 rfl rfl (Bn_ltF (by omega) (If_F ?_))
 exact Ret.mk ⟨_, _, rfl, h⟩
def Yc (v : Value) (xs : List Value) (_ : Nat) (vs : List Value) (_ : World) : Prop := ∃ u, vs = [u] ∧ Part 1 v 64 xs u 64 xs
theorem it_chunk {w0 : World} {v : Value} {xs : List Value} {gs gi : Nat} {J : Nat → World → Prop}
 (hJ : ∀ i W, J i W → Blk W gs tBc [v] ∧ Blk W gi 3 [.int .i64 64] ∧ SlC W 1 v 64 xs) :
 IterG Tryz.prog 147 #[pr gs 0, pr gi 0] 1 (Yc v xs) Ext w0 J := by
 intro l JJ XX W1 hb1 hJJ hst hsx hy h0
 show Calls Tryz.prog 147 #[.func (.yield l) #[] #[], pr gs 0, pr gi 0] W1 _
 apply e_slices_Chunk_byte_byte_1
 unfold s_slices_Chunk_byte_byte_1
 refine Lp1.mkK (fun i W => (i = .int .i64 0 ∧ JJ 0 W) ∨ (i = .int .i64 64 ∧ JJ 1 W)) (fun i _ => match i with | .int _ i' => 64 - i'.toNat | _ => 0) (.inl ⟨rfl, h0⟩) ?_
 rintro _ W (⟨rfl, hjj⟩ | ⟨rfl, hjj⟩) K hK
 rotate_left
 ·obtain ⟨b1, b2, sv⟩ := hJ 1 W (hJJ 1 W hjj)
  have h := Hp.init [] W
  refine lg1 h ‹_› (by rfl) ?_
  refine leS (sv.hp h) ?_
  refine Bn_ltF (by omega) (If_F ?_)
  exact ⟨⟨_, rfl⟩, .inl hjj⟩
 obtain ⟨b1, b2, sv⟩ := hJ 0 W (hJJ 0 W hjj)
 have h := Hp.init [] W
 refine lg1 h ‹_› (by rfl) ?_
 refine leS (sv.hp h) ?_
 refine Bn_ltT (by omega) (If_T ?_)
 replace h := h.dr
 refine dg1 h ‹_› (by rfl) ?_
 refine dg1 h ‹_› (by rfl) ?_
 have sv1 := sv.hp h
 refine dscL0 sv1 (z := 0) (by rfl) (fun v2 p2 => ?_)
 refine dlS (p2.2 _ sv1) ?_
 refine Dv_min (lg1 h b1 (by rfl) ?_)
 have m : (min 64 ((64 : Nat) : Int)) = 64 := by decide
 rw [m]
 refine Bn_ad (by decide) (by decide) (Bn_ad (by decide) (by decide) (scW sv1 (z0 := 0) (z1 := 0 + 64) (z2 := 0 + 64) (by decide) (by decide) (by decide) fun v3 p3 => ?_))
 refine Cw_y (vs := [v3]) (hy 0 _ _ (by decide) ⟨v3, rfl, p3⟩ (hst 0 W _ hjj h.ext)) ?_
 rintro b w' (⟨rfl, hjj'⟩ | ⟨rfl, hxx⟩)
 ·obtain ⟨b1, b2, sv⟩ := hJ 1 w' (hJJ 1 w' hjj')
  have h := Hp.init [] w'
  refine Un_T (If_F (lg1 h ‹_› (by rfl) ?_))
  refine Bn_ad (by omega) (by omega) ?_
  exact hK _ _ (.inr ⟨rfl, hjj'⟩) (by decide)
 ·have h := Hp.init [] w'
  refine Un_F (If_T ?_)
  exact ⟨⟨_, rfl⟩, .inr hxx⟩
def Rnd (w : World) : Prop := ∃ rl : List Int, rl.length = 64 ∧ Blk w 2 tA64 (us rl)
theorem Rnd.ext {w w' : World} (h : Rnd w) (x : Ext w w') : Rnd w' := by
 obtain ⟨rl, h1, h2⟩ := h
 exact ⟨rl, h1, h2.ext x⟩
abbrev DLs (gs gi : Nat) (v : Value) (bs : List UInt8) (g1 : Nat) (a : List Int) : List Et := [bx gi 3 [.int .i64 64], bx gs tBc [v], rb 5 v 64 (u8s bs), bx g1 tWd (us a)]
theorem u8s_snoc (bs : List UInt8) (b : UInt8) : u8s bs ++ [.int .u8 (b.toNat : Int)] = u8s (bs ++ [b]) := by simp
set_option maxHeartbeats 8000000 in
theorem c_Sum {w0 : World} {l : List UInt8} (hR : Rnd w0) (hl : l.length ≤ 55) : Calls Tryz.prog 94 #[str l] w0 (Ret fun r w' => Ext w0 w' ∧ ∃ bs : List UInt8, bs.length = 32 ∧ r = str bs) := by
 apply e_digest_Sum
 unfold s_digest_Sum
 have h := Hp.init [] w0
 refine bdS (PC.cons (by rfl) (PC.cons (by rfl) (PC.cons (by rfl) (PC.cons (by rfl) (PC.cons (by rfl) (PC.cons (by rfl) (PC.cons (by rfl) (PC.cons (by rfl) PC.nil)))))))) (by rfl) ?_
 refine alS h fun g1 w h => ?_
 refine stA h 0 rfl rfl rfl rfl fun w h => ?_
 dsimp only [List.set] at h
 refine cvB h Tryz.underlying9 Tryz.underlying139 Tryz.underlying5 fun g cap zs w hcap h => ?_
 have h : Hp [] w0 w [rb 5 (.slice (some ⟨g, 0, none⟩) l.length cap) l.length (u8s l), bx g1 tWd (us [1779033703, 3144134277, 1013904242, 2773480762, 1359893119, 2600822924, 528734635, 1541459225])] :=
  h.as (i := 0) rfl (rb_at (.inr ⟨g, cap, zs, rfl, by rw [List.length_map], by omega, h.get (i := 0) rfl⟩)) (by intro k hk; exact hk)
 refine bs1A h (by rfl) (by decide) (by rfl) (by decide) fun v1 w h => ?_
 refine apB rfl h 1 rfl (qZ 0 h rfl) rfl (by omega) fun v' w h => ?_
 have h : Hp [] w0 w [rb 5 v' (l.length + 1) (u8s (l ++ [128])), bx g1 tWd (us [1779033703, 3144134277, 1013904242, 2773480762, 1359893119, 2600822924, 528734635, 1541459225])] := by
  rw [← u8s_snoc]
  exact h.drop 1
 refine Lp1.mkN (fun m a w => ∃ (n : Nat) (bs : List UInt8), n ≤ 56 ∧ m = 56 - n ∧ bs.length = n ∧ Hp [] w0 w [rb 5 a n (u8s bs), bx g1 tWd (us [1779033703, 3144134277, 1013904242, 2773480762, 1359893119, 2600822924, 528734635, 1541459225])]) (n0 := 56 - (l.length + 1)) ⟨l.length + 1, l ++ [128], by omega, rfl, by simp, h⟩ ?_
 clear h
 rintro _ v w ⟨n, bs, hn, rfl, hbs, h⟩ K hK
 refine leS (RowB.sl (h.get (i := 0) rfl)) ?_
 refine Bn_rm (by omega) (by omega) ?_
 by_cases h56 : n < 56
 ·refine Bn_neT (by omega) (If_T (bs1A h (by rfl) (by decide) (by rfl) (by decide) fun v2 w h => ?_))
  refine apB rfl h 1 rfl (qZ 0 h rfl) rfl (by omega) fun v3 w h => ?_
  have h : Hp [] w0 w [rb 5 v3 (n + 1) (u8s (bs ++ [0])), bx g1 tWd (us [1779033703, 3144134277, 1013904242, 2773480762, 1359893119, 2600822924, 528734635, 1541459225])] := by
   rw [← u8s_snoc]
   exact h.drop 1
  exact hK _ _ _ ⟨n + 1, _, by omega, rfl, by simp [hbs], h⟩ (by omega)
 refine Bn_neF (by omega) (If_F ?_)
 have e56 : n = 56 := by omega
 subst e56
 clear hK
 refine Lp2.mkK (fun a i w => ∃ (j : Nat) (bs : List UInt8), j ≤ 8 ∧ i = .int .i64 (7 - (j : Int)) ∧ bs.length = 56 + j ∧ Hp [] w0 w [rb 5 a (56 + j) (u8s bs), bx g1 tWd (us [1779033703, 3144134277, 1013904242, 2773480762, 1359893119, 2600822924, 528734635, 1541459225])])
  (fun _ i _ => match i with | .int _ i' => (i' + 1).toNat | _ => 0) ⟨0, bs, by omega, rfl, hbs, h⟩ ?_
 clear h hbs bs
 rintro v i w ⟨j, bs, hj, rfl, hbs, h⟩ K hK
 by_cases hj8 : j < 8
 ·refine Bn_geT (by omega) (If_T (Bt_lenT ?_))
  refine Bn_mu (by omega) (by omega) (Bn_mu (by omega) (by omega) (Bg_shr (by omega) rfl ?_))
  refine Cv_i (by rw [Tryz.underlying3]; rfl) Tryz.underlying5 rfl ?_
  obtain ⟨b, hb⟩ := u8_ex ((8 * (l.length : Int)).fdiv (2 ^ min (8 * (7 - (j : Int))).toNat IntKind.i64.bits))
  rw [hb]
  refine bs1A h (by rfl) (by decide) (by rfl) (by decide) fun v2 w h => ?_
  refine apB rfl h 1 rfl (qZ 0 h rfl) rfl (by omega) fun v3 w h => ?_
  have h : Hp [] w0 w [rb 5 v3 (56 + (j + 1)) (u8s (bs ++ [b])), bx g1 tWd (us [1779033703, 3144134277, 1013904242, 2773480762, 1359893119, 2600822924, 528734635, 1541459225])] := by
   rw [← u8s_snoc]
   exact h.drop 1
  refine Bn_su (by omega) (by omega) ?_
  exact hK _ _ _ ⟨j + 1, _, by omega, by congr 1; omega, by simp [hbs]; omega, h⟩ (by show (7 - (j : Int) - 1 + 1).toNat < (7 - (j : Int) + 1).toNat; omega)
 refine Bn_geF (by omega) (If_F ?_)
 have e8 : j = 8 := by omega
 subst e8
 clear hK
 have sv := RowB.sl (h.get (i := 0) rfl)
 refine Cl_i n_slices_Chunk_byte_byte (c_Chunk h sv) ?_
 rintro _ w2 ⟨gs, gi, rfl, h⟩
 have hw1 := h.size
 have lt : ∀ k ∈ (DLs gs gi v bs g1 []).flatMap Et.ks, k < w2.heap.size := fun k hk => by
  obtain ⟨e, he, hke⟩ := List.mem_flatMap.1 hk
  have q := h.ks
  simp only [DLs, List.mem_cons, List.not_mem_nil, or_false] at he q
  rcases he with rfl | rfl | rfl | rfl
  ·exact (q _ (.inl rfl) k hke).1
  ·exact (q _ (.inr (.inl rfl)) k hke).1
  ·exact (q _ (.inr (.inr (.inl rfl))) k hke).1
  ·exact (q _ (.inr (.inr (.inr rfl))) k hke).1
 have n2 : 2 ∉ [g1] := fun hc => by
  obtain ⟨rl, _, hb⟩ := hR
  have e : 2 = g1 := List.mem_singleton.1 hc
  have h1 := (h.ks _ (List.mem_of_getElem? (i := 3) rfl) g1 (List.mem_singleton.2 rfl)).2
  have h2 := hb.lt
  simp at h1
  omega
 have ok : IterOk w2 (Yc v (u8s bs)) Ext (fun _ W => ∃ a : List Int, a.length = 8 ∧ Hp [] w0 W (DLs gs gi v bs g1 a)) (fun _ _ => False) := by
  have hb : ∀ {W W' : World} {a : List Int}, Hp [] w0 W (DLs gs gi v bs g1 a) → Bk w2.heap.size W W' → Hp [] w0 W' (DLs gs gi v bs g1 a) := fun h b => h.bk2 (fun j hj => .inl (lt j hj)) hw1 b
  exact ⟨fun i W W' ⟨a, ha, h⟩ b => ⟨a, ha, hb h b⟩, fun _ _ _ h _ => h, fun _ _ _ _ h _ => h, fun i W W' ⟨a, ha, h⟩ x => ⟨a, ha, h.x x⟩, fun _ _ _ h _ => h, fun W W' x => ⟨x.size, fun k _ hk _ => x.block k hk⟩⟩
 refine ⟨147, #[pr gs 0, pr gi 0], 1, Yc v (u8s bs), Ext, _, _, rfl, n_slices_Chunk_byte_byte_1, fun i vs W ⟨u, e, _⟩ => by rw [e]; rfl, it_chunk (fun i W ⟨a, ha, h⟩ => ⟨h.get (i := 1) rfl, h.get (i := 0) rfl, RowB.sl (h.get (i := 2) rfl)⟩), ok, ⟨_, rfl, h⟩, ?_, ?_, fun _ _ _ _ h => h.elim, by simp⟩
 ·rintro a0 i W hi ⟨u, hu, hp⟩ ⟨a, ha, h⟩ hsz
  obtain rfl : a0 = u := by simpa using hu
  obtain ⟨rl, hrl, hb⟩ := hR
  replace h := h.fr w2.heap.size (by omega) (fun j hj => .inl (lt j hj))
  have sv := RowB.sl (h.get (i := 3) rfl)
  refine Cl_i n_digest_words_add (c_add (hp.2 _ sv) hbs (hb.ext h.ext) hrl (h.get (i := 4) rfl) ha n2) ?_
  rintro _ w3 ⟨rfl, hm, l3, hl3, b3⟩
  have h := h.up (i := 4) rfl hm (bx_at b3) (fun k hk => .inl hk)
  exact ⟨⟨l3, hl3, h.drop 1⟩, h.get (i := 0) rfl⟩
 ·rintro D W hD' hd ⟨a, ha, h⟩
  replace h := h.df hd (by omega) (fun hc => by have := lt D hc; omega)
  obtain ⟨a0, a1, a2, a3, a4, a5, a6, a7, rfl⟩ := ex8 ha
  refine ldA h 4 rfl rfl ?_
  refine Cl_i n_digest_words_digest c_digest ?_
  rintro _ w3 ⟨x3, bs3, hb3, rfl⟩
  have h := h.x x3
  refine tkE h 0 rfl fun w h => ?_
  dsimp only [List.set] at h
  exact Ret.mk ⟨h.ext, _, hb3, rfl⟩
theorem dig_of {w : World} (h : Rnd w) : Dig w := fun x hl => c_Sum (h.ext x) hl
end Go.Proofs.YtjgjeccfhmlcnaaGreatDoor
