/-
  Contracts and plain lemmas. By an AI agent.
-/
import Derived.Test.YtnocjgmmglmfiaaGreatDoorEsT
set_option linter.unusedSimpArgs false
set_option linter.unusedVariables false
set_option linter.unusedSectionVars false
namespace Go.Proofs.YtnocjgmmglmfiaaGreatDoor
open Go Go.Eng Go.Proofs Go.Num Go.RowKit
set_option maxRecDepth 100000
set_option linter.unusedVariables false
set_option linter.unusedSectionVars false
def pickZ (c n : Int) : Int := if c < 0 then (-(c + 1)) % n else c % n
theorem pickZ_bd {c n : Int} (hn : 0 < n) : 0 ≤ pickZ c n ∧ pickZ c n < n := by
  unfold pickZ
  split
  · exact ⟨Int.emod_nonneg _ (by omega), Int.emod_lt_of_pos _ hn⟩
  · exact ⟨Int.emod_nonneg _ (by omega), Int.emod_lt_of_pos _ hn⟩
abbrev I64 (z : Int) : Prop := -9223372036854775808 ≤ z ∧ z ≤ 9223372036854775807
section
variable {w : World} {c n : Int} (hc : I64 c) (hn : 0 < n)
include hc hn
theorem c_pickR : Calls Tryz.prog 29 #[.int .i64 c, .int .i64 n] w (Ret fun r w' => Ext w w' ∧ r = .int .i64 (pickZ c n)) := by
  apply e_ref16_pick
  unfold s_ref16_pick
  have h := Hp.init [] w
  by_cases h0 : c < 0
  · have e : pickZ c n = (-(c + 1)) % n := by unfold pickZ; rw [if_pos h0]
    rw [e]
    refine Bn_ltT (by omega) ?_
    refine If_T ?_
    refine Bn_ad (by omega) (by omega) ?_
    refine Eng.Un_ng (by omega) (by omega) ?_
    refine Bn_rm (by omega) (by omega) ?_
    exact Ret.mk ⟨h.ext, rfl⟩
  · have e : pickZ c n = c % n := by unfold pickZ; rw [if_neg h0]
    rw [e]
    refine Bn_ltF (by omega) ?_
    refine If_F ?_
    refine Bn_rm (by omega) (by omega) ?_
    exact Ret.mk ⟨h.ext, rfl⟩
end
abbrev I3 := Int × Int × Int
abbrev fT (a : I3) : List Value := [.int .i64 a.1, .int .i64 a.2.1, .int .i64 a.2.2]
def I3ok (l : List I3) : Prop := ∀ a ∈ l, I64 a.1 ∧ I64 a.2.1 ∧ I64 a.2.2
def mkX (a : I3) : Rat := ((pickZ a.1 41 - 10 : Int) : Rat) / ((1 + pickZ (a.1.tdiv 41) 3 : Int) : Rat)
def mkP (a : I3) : Rat := ((1 + pickZ a.2.2 (1 + pickZ a.2.1 10) : Int) : Rat) / ((1 + pickZ a.2.1 10 : Int) : Rat)
def mkE (a : I3) : El := (mkX a, mkP a)
def made (l : List I3) (most : Nat) : List El := (l.take most).map mkE
theorem mkE_ME (a : I3) : ME (mkE a) := by
  have h1 := pickZ_bd (c := a.1) (n := 41) (by decide)
  have h2 := pickZ_bd (c := a.1.tdiv 41) (n := 3) (by decide)
  have h3 := pickZ_bd (c := a.2.1) (n := 10) (by decide)
  have h4 := pickZ_bd (c := a.2.2) (n := 1 + pickZ a.2.1 10) (by omega)
  exact ME.of (by omega) (by omega) (by omega) (by omega)
theorem made_ME (l : List I3) (most : Nat) : MEs (made l most) := fun e he => by
  obtain ⟨a, _, rfl⟩ := List.mem_map.1 he
  exact mkE_ME a
theorem made_len (l : List I3) (most : Nat) : (made l most).length ≤ most := by
  unfold made; rw [List.length_map, List.length_take]; omega
theorem ME.good {e : El} (h : ME e) : El.ok e ∧ 0 < e.2 ∧ e.2 ≤ 1 := ⟨⟨h.sx.rb, h.sp.rb⟩, h.h0, h.h1⟩
theorem MEs.good {l : List El} (h : MEs l) : Good l := fun e he => (h e he).good
theorem made_snoc {l : List I3} {j : Nat} {a : I3} (h : l[j]? = some a) : (l.take (j + 1)).map mkE = (l.take j).map mkE ++ [mkE a] := by
  rw [take_snoc h, List.map_append]; rfl
theorem ofQ {n d : Int} (hd : d ≠ 0) : rv (makeQ n d) = .tuple #[ov (some ((n : Rat) / d)), .int .i64 0] := by
  unfold makeQ; rw [if_neg hd]; rfl
set_option maxHeartbeats 4000000 in
theorem c_Made {w0 : World} {v : Value} {l : List I3} {most : Nat} (hv : SlC w0 3 v l.length (l.flatMap fT)) (hok : I3ok l) (hl : l.length ≤ 9223372036854775807) (hm : most ≤ 1000) :
    Calls Tryz.prog 12 #[v, .int .i64 (most : Int)] w0 (Ret fun r w' => ∃ x p, r = .tuple #[x, p] ∧ Hp [] w0 w' [ro tR 2 p (made l most).length ((made l most).flatMap fP), ro tR 2 x (made l most).length ((made l most).flatMap fX)]) := by
  apply e_ref16_Made
  unfold s_ref16_Made
  have h := Hp.init [] w0
  have h := (h.nil tR 2).nil tR 2
  refine Lp3.mk (fun x p i W => ∃ j : Nat, j ≤ l.length ∧ j ≤ most ∧ i = .int .i64 j ∧ Hp [] w0 W [ro tR 2 p ((l.take j).map mkE).length (((l.take j).map mkE).flatMap fP), ro tR 2 x ((l.take j).map mkE).length (((l.take j).map mkE).flatMap fX)])
    (fun _ _ i _ => match i with | .int _ i' => l.length - i'.toNat | _ => 0) ⟨0, by omega, by omega, rfl, h⟩ ?_
  clear h
  rintro x p _ W ⟨j, hj, hjm, rfl, h⟩
  by_cases hjl : j < l.length ∧ j < most
  rotate_left
  · have hmd : (l.take j).map mkE = made l most := by
      unfold made
      by_cases hc : j < l.length
      · rw [show j = most by omega]
      · rw [List.take_of_length_le (by omega), List.take_of_length_le (by omega)]
    rw [hmd] at h
    by_cases hc : j < l.length
    · refine leS (hv.hp h) ?_
      refine Bn_ltT (by omega) ?_
      iterate 3 refine Gd_T ?_
      refine Bn_ltF (by omega) ?_
      refine Pick_T ?_
      refine If_F ?_
      exact Ret.mk ⟨x, p, rfl, h⟩
    · refine leS (hv.hp h) ?_
      refine Bn_ltF (by omega) ?_
      iterate 3 refine Gd_FT ?_
      refine Pick_F ?_
      refine If_F ?_
      exact Ret.mk ⟨x, p, rfl, h⟩
  have hj1 := hjl.1
  have hj2 := hjl.2
  refine Exists.elim (p := fun a => l[j]? = some a) ⟨_, List.getElem?_eq_getElem hj1⟩ fun a ha => ?_
  have sa : Seg (l.flatMap fT) (j * 3) (fT a) := flat_seg (f := fT) (fun _ => rfl) ha
  have oa := hok a (List.mem_of_getElem? ha)
  have o1 := oa.1
  have o2 := oa.2.1
  have o3 := oa.2.2
  have o4 := tdiv_bd (y := 41) o1.1 o1.2 (by decide)
  have b1 := pickZ_bd (c := a.2.1) (n := 10) (by decide)
  have b2 := pickZ_bd (c := a.1) (n := 41) (by decide)
  have b3 := pickZ_bd (c := a.1.tdiv 41) (n := 3) (by decide)
  have b4 := pickZ_bd (c := a.2.2) (n := 1 + pickZ a.2.1 10) (by omega)
  have cc1 := fun {W : World} (_ : Ext w0 W) => c_pickR (w := W) (c := a.2.1) (n := 10) o2 (by decide)
  have cc2 := fun {W : World} (_ : Ext w0 W) => c_pickR (w := W) (c := a.1) (n := 41) o1 (by decide)
  have cc3 := fun {W : World} (_ : Ext w0 W) => c_pickR (w := W) (c := a.1.tdiv 41) (n := 3) o4 (by decide)
  have cc4 : ∀ {W : World}, Ext w0 W → Calls Tryz.prog 30 #[.int .i64 (pickZ a.1 41 - 10), .int .i64 (1 + pickZ (a.1.tdiv 41) 3)] W (Ret fun r w' => Ext W w' ∧ r = .tuple #[ov (some (mkX a)), .int .i64 0]) := fun {W} _ => by
    have := c_fOf (w := W) (x := pickZ a.1 41 - 10) (y := 1 + pickZ (a.1.tdiv 41) 3) (by omega) (by omega) (by omega) (by omega)
    rw [ofQ (by omega)] at this
    exact this
  have cc5 := fun {W : World} (_ : Ext w0 W) => c_pickR (w := W) (c := a.2.2) (n := 1 + pickZ a.2.1 10) o3 (by omega)
  have cc6 : ∀ {W : World}, Ext w0 W → Calls Tryz.prog 30 #[.int .i64 (1 + pickZ a.2.2 (1 + pickZ a.2.1 10)), .int .i64 (1 + pickZ a.2.1 10)] W (Ret fun r w' => Ext W w' ∧ r = .tuple #[ov (some (mkP a)), .int .i64 0]) := fun {W} _ => by
    have := c_fOf (w := W) (x := 1 + pickZ a.2.2 (1 + pickZ a.2.1 10)) (y := 1 + pickZ a.2.1 10) (by omega) (by omega) (by omega) (by omega)
    rw [ofQ (by omega)] at this
    exact this
  have hsn := made_snoc ha
  have hll : ((l.take j).map mkE).length = j := by rw [List.length_map, take_len hj]
  refine leS (hv.hp h) ?_
  refine Bn_ltT (by omega) ?_
  iterate 3 refine Gd_T ?_
  refine Bn_ltT (by omega) ?_
  refine Pick_T ?_
  refine If_T ?_
  refine iaH h (by assumption) (by omega) fun zb zo zk zv zc => ?_
  refine iaZ (by decide) (by decide) ?_
  refine lh1 h (by assumption) (by assumption) (by rfl) ?_
  refine cl1 h n_ref16_pick (cc1 h.ext) fun w h => ?_
  refine Bn_ad (by omega) (by omega) ?_
  refine Jn2.mk fun K hK => ?_
  have lf1 : ∀ gx w, Hp [] w0 w [bx gx tR (fO (some (mkX a))), ro tR 2 p ((l.take j).map mkE).length (((l.take j).map mkE).flatMap fP), ro tR 2 x ((l.take j).map mkE).length (((l.take j).map mkE).flatMap fX)] → K (pr gx 0) (.int .i64 0) w := by
    clear h
    intro gx w h
    refine hK _ _ _ ?_
    clear hK
    refine iaH h (by assumption) (by omega) fun zb zo zk zv zc => ?_
    refine iaZ (by decide) (by decide) ?_
    refine lh1 h (by assumption) (by assumption) (by rfl) ?_
    refine cl1 h n_ref16_pick (cc5 h.ext) fun w h => ?_
    refine Bn_ad (by omega) (by omega) ?_
    refine cl1 h n_ref04_Of (cc6 h.ext) fun w h => ?_
    refine Ex2 ?_
    refine alS h fun g1 w h => ?_
    refine stA h 0 rfl rfl rfl rfl fun w h => ?_
    refine Bn_eqT (by omega) ?_
    iterate 2 refine Gd_T ?_
    refine Bn_eqT (by omega) ?_
    refine Pick_T ?_
    refine If_T ?_
    refine ldA h 1 rfl rfl ?_
    refine bs1A h (by rfl) (by decide) (by rfl) (by decide) fun v1 w h => ?_
    refine apR (by rfl) (by decide) h 4 rfl (h.sl (i := 0) rfl) (by first | rfl | assumption) (by omega) fun v2 w h => ?_
    refine ldA h 1 rfl rfl ?_
    refine bs1A h (by rfl) (by decide) (by rfl) (by decide) fun v3 w h => ?_
    refine apR (by rfl) (by decide) h 4 rfl (h.sl (i := 0) rfl) (by first | rfl | assumption) (by omega) fun v4 w h => ?_
    refine Bn_ad (by omega) (by omega) ?_
    dsimp only [List.set] at h
    refine ⟨⟨j + 1, by omega, by omega, rfl, ?_⟩, by show l.length - ((j : Int) + 1).toNat < l.length - (j : Int).toNat; omega⟩
    rw [hsn]
    simp only [List.flatMap_append, List.flatMap_cons, List.flatMap_nil, List.append_nil, List.length_append, List.length_cons, List.length_nil]
    exact h.pick [4, 5] (by decide) rfl
  clear hK
  replace h := h.dr
  refine diH h (by assumption) (by omega) fun zb zo zk zv zc => ?_
  refine diZ (by decide) (by decide) ?_
  refine dh1 h (by assumption) (by assumption) (by rfl) ?_
  refine diH h (by assumption) (by omega) fun zb zo zk zv zc => ?_
  refine diZ (by decide) (by decide) ?_
  refine dh1 h (by assumption) (by assumption) (by rfl) ?_
  refine Dv_qt (by omega) (by omega) (by omega) ?_
  refine ⟨?_, ?_⟩
  refine cl1 h n_ref16_pick (cc2 h.ext) fun w h => ?_
  refine kh1 h (by assumption) (by assumption) (by rfl) ?_
  refine Dv_su (by omega) (by omega) ?_
  refine ⟨?_, ?_⟩
  refine cl1 h n_ref16_pick (cc3 h.ext) fun w h => ?_
  refine Dv_ad (by omega) (by omega) ?_
  refine ⟨?_, ?_⟩
  refine cl1 h n_ref04_Of (cc4 h.ext) fun w h => ?_
  refine ExP2 ?_
  refine alS h fun g1 w h => ?_
  iterate 2 refine kh1 h (by assumption) (by assumption) (by rfl) ?_
  refine stA h 0 rfl rfl rfl rfl fun w h => ?_
  exact lf1 _ _ h
  refine alS h fun g1 w h => ?_
  iterate 2 refine kh1 h (by assumption) (by assumption) (by rfl) ?_
  refine cl1 h n_ref04_Of (cc4 h.ext) fun w h => ?_
  refine ExP2 ?_
  refine stA h 0 rfl rfl rfl rfl fun w h => ?_
  exact lf1 _ _ h
  refine alS h fun g1 w h => ?_
  iterate 2 refine kh1 h (by assumption) (by assumption) (by rfl) ?_
  refine cl1 h n_ref16_pick (cc3 h.ext) fun w h => ?_
  refine Dv_ad (by omega) (by omega) ?_
  refine cl1 h n_ref04_Of (cc4 h.ext) fun w h => ?_
  refine ExP2 ?_
  refine stA h 0 rfl rfl rfl rfl fun w h => ?_
  exact lf1 _ _ h
  refine alS h fun g1 w h => ?_
  iterate 2 refine kh1 h (by assumption) (by assumption) (by rfl) ?_
  refine cl1 h n_ref16_pick (cc2 h.ext) fun w h => ?_
  refine kh1 h (by assumption) (by assumption) (by rfl) ?_
  refine Dv_su (by omega) (by omega) ?_
  refine cl1 h n_ref16_pick (cc3 h.ext) fun w h => ?_
  refine Dv_ad (by omega) (by omega) ?_
  refine cl1 h n_ref04_Of (cc4 h.ext) fun w h => ?_
  refine ExP2 ?_
  refine stA h 0 rfl rfl rfl rfl fun w h => ?_
  exact lf1 _ _ h
section
variable {w : World} {K : Value → World → Prop} {KP : Value → Prop} {c wi : Bool} {a b : List UInt8}
theorem ab_t : (a == a && b == b) = true := by simp
theorem qNeS (hk : K (.bool false) w) : Bn Tryz.prog .neq tR c (.agg #[str a, str b]) (.agg #[str a, str b]) w K := qNeF ab_t hk
theorem dqEqS (hk : KP (.bool true)) : Dv Tryz.prog wi (bn .eql tR c (.agg #[str a, str b]) (.agg #[str a, str b])) w KP := dqEqT ab_t hk
end
theorem c_of {w : World} {n d : Int} (hT : Tab w) (hn : I64 n) (hd : I64 d) (h0 : d ≠ 0) : Calls Tryz.prog 22 #[.int .i64 n, .int .i64 d] w (Ret fun r w' => Ext w w' ∧ r = ov (some ((n : Rat) / d))) := by
  have cc1 : ∀ {W : World}, Ext w W → Calls Tryz.prog 53 #[.int .i64 n, .int .i64 d] W (Ret fun r w' => Ext W w' ∧ r = .tuple #[ov (some ((n : Rat) / d)), .int .i64 0]) := fun {W} x => by
    have := c_Of (w := W) (x := n) (y := d) (hT.ext x) hn.1 hn.2 hd.1 hd.2
    rw [ofQ h0] at this
    exact this
  apply e_law16_of
  unfold s_law16_of
  have h := Hp.init [] w
  refine alS h fun g1 w h => ?_
  refine cl1 h n_rational_Of (cc1 h.ext) fun w h => ?_
  refine Ex2 ?_
  refine alS h fun g2 w h => ?_
  refine stA h 0 rfl rfl rfl rfl fun w h => ?_
  refine Bn_neF (by omega) ?_
  refine If_F ?_
  refine ldA h 0 rfl rfl ?_
  refine stA h 1 rfl rfl rfl rfl fun w h => ?_
  refine rcA h 1 rfl rfl ?_
  dsimp only [List.set] at h
  exact Ret.mk ⟨h.ext, rfl⟩
theorem c_of1 {w : World} {n : Int} (hT : Tab w) (hn : I64 n) : Calls Tryz.prog 22 #[.int .i64 n, .int .i64 1] w (Ret fun r w' => Ext w w' ∧ r = ov (some (n : Rat))) := by
  have := c_of (d := 1) hT hn (by decide) (by decide)
  rw [show (n : Rat) / ((1 : Int) : Rat) = (n : Rat) by grind] at this
  exact this
end Go.Proofs.YtnocjgmmglmfiaaGreatDoor
