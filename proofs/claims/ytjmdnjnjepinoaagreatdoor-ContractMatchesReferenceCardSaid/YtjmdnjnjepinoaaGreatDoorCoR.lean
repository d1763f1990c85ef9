/-
  Contracts and plain lemmas. By an AI agent.
-/
import Derived.Test.YtjmdnjnjepinoaaGreatDoorCoQ
import Derived.Test.YtjmdnjnjepinoaaGreatDoorPlain
set_option linter.unusedSimpArgs false
set_option linter.unusedVariables false
set_option linter.unusedSectionVars false
namespace Go.Proofs.YtjmdnjnjepinoaaGreatDoor
open Go Go.Eng Go.Proofs Go.Num Go.RowKit
set_option maxRecDepth 100000
def smQ (n d : Int) : Rat := ((pickZ n 10 : Int) : Rat) / ((1 + pickZ d 9 : Int) : Rat)
theorem c_Small {w0 : World} {n d : Int} (hn : I64 n) (hd : I64 d) : Calls Tryz.prog 36 #[.int .i64 n, .int .i64 d] w0 (Ret fun r w' => Ext w0 w' ∧ r = ov (some (smQ n d))) := by
 have b1 := pickZ_bd (c := n) (n := 10) (by decide)
 have b2 := pickZ_bd (c := d) (n := 9) (by decide)
 have cc1 := fun {W : World} (_ : Ext w0 W) => c_pickR (w := W) (c := n) (n := 10) hn (by decide)
 have cc2 := fun {W : World} (_ : Ext w0 W) => c_pickR (w := W) (c := d) (n := 9) hd (by decide)
 have cc3 : ∀ {W : World}, Ext w0 W → Calls Tryz.prog 67 #[.int .i64 (pickZ n 10), .int .i64 (1 + pickZ d 9)] W (Ret fun r w' => Ext W w' ∧ r = .tuple #[ov (some (smQ n d)), .int .i64 0]) := fun {W} _ => by
  have := c_fOf (w := W) (x := pickZ n 10) (y := 1 + pickZ d 9) (by omega) (by omega) (by omega) (by omega)
  rw [ofQ (by omega)] at this
  exact this
 apply e_ref26_Small
 unfold s_ref26_Small
 have h := Hp.init [] w0
 refine alS h fun g1 w h => ?_
 refine cl1 h n_ref26_pick (cc1 h.ext) fun w h => ?_
 refine cl1 h n_ref26_pick (cc2 h.ext) fun w h => ?_
 refine Bn_ad (by omega) (by omega) (cl1 h n_ref04_Of (cc3 h.ext) fun w h => ?_)
 refine Ex2 (alS h fun g2 w h => ?_)
 refine stA h 0 rfl rfl rfl rfl fun w h => ?_
 refine Bn_neF (by omega) (If_F (ldA h 0 rfl rfl ?_))
 refine stA h 1 rfl rfl rfl rfl fun w h => ?_
 refine rcA h 1 rfl rfl ?_
 dsimp only [List.set] at h
 exact Ret.mk ⟨h.ext, rfl⟩
def cz (k : Int) : Int := if k = 0 then 0 else if k = 1 then 5 else if k = 2 then 100 else 1000000000
abbrev czL : List Value := [.int .i64 0, .int .i64 5, .int .i64 100, .int .i64 1000000000]
theorem cz_seg {k : Int} (h : 0 ≤ k ∧ k < 4) : Seg czL (k.toNat * 1) [.int .i64 (cz k)] := by
 have : k = 0 ∨ k = 1 ∨ k = 2 ∨ k = 3 := by omega
 rcases this with rfl | rfl | rfl | rfl <;> exact seg_one rfl
theorem cz_bd {k : Int} (h : 0 ≤ k ∧ k < 4) : 0 ≤ cz k ∧ (k < 3 → cz k ≤ 100) ∧ cz k ≤ 1000000000 := by
 unfold cz; split
 ·omega
 ·split
  ·omega
  ·split <;> omega
abbrev capZ (x : Int) : Int := cz (pickZ x 4) + pickZ (x.tdiv 4) 50 - 50 * (pickZ x 4).tdiv 3
theorem cz_3 {k : Int} (h : 0 ≤ k ∧ k < 4) : k.tdiv 3 = k / 3 := Int.tdiv_eq_ediv_of_nonneg h.1
def madeC (a b c d : Int) : CT := ⟨pickZ a 4, pickZ b 4, tx (smQ c a), capZ d⟩
set_option maxHeartbeats 4000000 in
theorem c_Made {w0 : World} {a b c d : Int} (ha : I64 a) (hb : I64 b) (hc : I64 c) (hd : I64 d) : Calls Tryz.prog 12 #[.agg #[.int .i64 a, .int .i64 b, .int .i64 c, .int .i64 d]] w0 (Ret fun r w' => Ext w0 w' ∧ r = vC (madeC a b c d)) := by
 have o4 := tdiv_bd (y := 4) hd.1 hd.2 (by decide)
 have b3 := pickZ_bd (c := d) (n := 4) (by decide)
 have b4 := pickZ_bd (c := d.tdiv 4) (n := 50) (by decide)
 have bz := cz_bd b3
 have b5 := cz_3 b3
 have b6 : 0 ≤ (pickZ d 4).tdiv 3 ∧ (pickZ d 4).tdiv 3 ≤ 1 := by omega
 have sz := cz_seg b3
 have z1 := bz.1
 have z2 := bz.2.2
 have d1 := hd.1
 have d2 := hd.2
 have cc1 := fun {W : World} (_ : Ext w0 W) => c_pickR (w := W) (c := a) (n := 4) ha (by decide)
 have cc2 := fun {W : World} (_ : Ext w0 W) => c_pickR (w := W) (c := b) (n := 4) hb (by decide)
 have cc3 := fun {W : World} (_ : Ext w0 W) => c_Small (w0 := W) (n := c) (d := a) hc ha
 have cc4 := fun {W : World} (_ : Ext w0 W) => c_pickR (w := W) (c := d) (n := 4) hd (by decide)
 have cc5 := fun {W : World} (_ : Ext w0 W) => c_pickR (w := W) (c := d.tdiv 4) (n := 50) o4 (by decide)
 apply e_ref26_Made
 suffices H : ∀ R : Ending → World → Prop, (∀ w, Hp [] w0 w [] → R (.returned (.agg #[.int .i64 (pickZ a 4), .int .i64 (pickZ b 4), str (eN (some (smQ c a))), str (eD (some (smQ c a))), .int .i64 (capZ d)])) w) → s_ref26_Made Tryz.prog (.agg #[.int .i64 a, .int .i64 b, .int .i64 c, .int .i64 d]) w0 R from H _ fun w h => Ret.mk ⟨h.ext, rfl⟩
 intro R lf1
 unfold s_ref26_Made
 have h := Hp.init [] w0
 refine bxA h fun g1 w h => ?_
 refine alS h fun g2 w h => ?_
 replace h := h.dr
 refine diZ (by decide) (by decide) ?_
 refine dl1 h 1 rfl rfl (diZ (by decide) (by decide) ?_)
 refine dl1 h 1 rfl rfl (diZ (by decide) (by decide) ?_)
 refine dl1 h 1 rfl rfl (diZ (by decide) (by decide) ?_)
 refine dl1 h 1 rfl rfl (diZ (by decide) (by decide) ?_)
 refine dl1 h 1 rfl rfl (diZ (by decide) (by decide) ?_)
 refine dl1 h 1 rfl rfl (Dv_qt (by omega) (by omega) (by omega) (diZ (by decide) (by decide) ?_))
 refine dl1 h 1 rfl rfl ?_
 refine ⟨?_, ?_⟩
 refine cl1 h n_ref26_pick (cc1 h.ext) fun w h => ?_
 refine kl1 h 1 rfl rfl (kl1 h 1 rfl rfl (kl1 h 1 rfl rfl (kl1 h 1 rfl rfl (kl1 h 1 rfl rfl (kl1 h 1 rfl rfl ?_)))))
 refine ⟨?_, ?_⟩
 refine cl1 h n_ref26_pick (cc2 h.ext) fun w h => ?_
 refine kl1 h 1 rfl rfl (kl1 h 1 rfl rfl (kl1 h 1 rfl rfl (kl1 h 1 rfl rfl (kl1 h 1 rfl rfl ?_))))
 refine ⟨?_, ?_⟩
 refine cl1 h n_ref26_Small (cc3 h.ext) fun w h => ?_
 refine kl1 h 1 rfl rfl (kl1 h 1 rfl rfl (kl1 h 1 rfl rfl ?_))
 refine ⟨?_, ?_⟩
 refine bsN (vs := [_, _, _, _]) h (.cons (by rfl) (by rfl) (.cons (by rfl) (by rfl) (.cons (by rfl) (by rfl) (.cons (by rfl) (by rfl) .nil)))) (by rfl) (by rfl) (by decide) (by decide) (by decide) fun v1 w h => ?_
 refine kl1 h 2 rfl rfl (kl1 h 2 rfl rfl (kl1 h 2 rfl rfl (kl1 h 2 rfl rfl (kl1 h 2 rfl rfl (kl1 h 2 rfl rfl (kl1 h 2 rfl rfl (cl1 h n_ref26_pick (cc4 h.ext) fun w h => ?_)))))))
 refine kl1 h 2 rfl rfl (kl1 h 2 rfl rfl (diRz h 0 rfl (by omega) (by omega) fun zg zk zv => ?_))
 refine dr0 h 0 rfl ‹_› ‹_› (by rfl) ?_
 refine cl1 h n_ref26_pick (cc5 h.ext) fun w h => ?_
 refine kl1 h 2 rfl rfl (kr0 h 0 rfl ‹_› ‹_› (by rfl) ?_)
 refine Dv_ad (by omega) (by omega) (cl1 h n_ref26_pick (cc4 h.ext) fun w h => ?_)
 refine kr0 h 0 rfl ‹_› ‹_› (by rfl) ?_
 refine Dv_qt (by omega) (by omega) (by omega) (Dv_mu (by omega) (by omega) (Dv_su (by omega) (by omega) (dbS (PC.cons (by rfl) (PC.cons (by rfl) (PC.cons (by rfl) (PC.cons (by rfl) PC.nil)))) (by rfl) ?_)))
 refine stA h 1 rfl rfl rfl rfl fun w h => ?_
 refine rcA h 1 rfl rfl ?_
 exact lf1 _ (h.pick [] (by decide) rfl)
 refine cl1 h n_ref26_pick (cc4 h.ext) fun w h => ?_
 refine kl1 h 1 rfl rfl (kl1 h 1 rfl rfl ?_)
 refine ⟨?_, ?_⟩
 refine bsN (vs := [_, _, _, _]) h (.cons (by rfl) (by rfl) (.cons (by rfl) (by rfl) (.cons (by rfl) (by rfl) (.cons (by rfl) (by rfl) .nil)))) (by rfl) (by rfl) (by decide) (by decide) (by decide) fun v1 w h => ?_
 refine kl1 h 2 rfl rfl (kl1 h 2 rfl rfl (kl1 h 2 rfl rfl (kl1 h 2 rfl rfl (kl1 h 2 rfl rfl (kl1 h 2 rfl rfl (kl1 h 2 rfl rfl (diRz h 0 rfl (by omega) (by omega) fun zg zk zv => ?_)))))))
 refine dr0 h 0 rfl ‹_› ‹_› (by rfl) ?_
 refine cl1 h n_ref26_pick (cc5 h.ext) fun w h => ?_
 refine kl1 h 2 rfl rfl (kr0 h 0 rfl ‹_› ‹_› (by rfl) ?_)
 refine Dv_ad (by omega) (by omega) (cl1 h n_ref26_pick (cc4 h.ext) fun w h => ?_)
 refine kr0 h 0 rfl ‹_› ‹_› (by rfl) ?_
 refine Dv_qt (by omega) (by omega) (by omega) (Dv_mu (by omega) (by omega) (Dv_su (by omega) (by omega) (dbS (PC.cons (by rfl) (PC.cons (by rfl) (PC.cons (by rfl) (PC.cons (by rfl) PC.nil)))) (by rfl) ?_)))
 refine stA h 1 rfl rfl rfl rfl fun w h => ?_
 refine rcA h 1 rfl rfl ?_
 exact lf1 _ (h.pick [] (by decide) rfl)
 refine cl1 h n_ref26_pick (cc5 h.ext) fun w h => ?_
 refine kl1 h 1 rfl rfl ?_
 refine ⟨?_, ?_⟩
 refine bsN (vs := [_, _, _, _]) h (.cons (by rfl) (by rfl) (.cons (by rfl) (by rfl) (.cons (by rfl) (by rfl) (.cons (by rfl) (by rfl) .nil)))) (by rfl) (by rfl) (by decide) (by decide) (by decide) fun v1 w h => ?_
 refine kl1 h 2 rfl rfl (kl1 h 2 rfl rfl (kl1 h 2 rfl rfl (kl1 h 2 rfl rfl (kl1 h 2 rfl rfl (kl1 h 2 rfl rfl (kl1 h 2 rfl rfl (diRz h 0 rfl (by omega) (by omega) fun zg zk zv => ?_)))))))
 refine dr0 h 0 rfl ‹_› ‹_› (by rfl) ?_
 refine Dv_ad (by omega) (by omega) (cl1 h n_ref26_pick (cc4 h.ext) fun w h => ?_)
 refine kr0 h 0 rfl ‹_› ‹_› (by rfl) ?_
 refine Dv_qt (by omega) (by omega) (by omega) (Dv_mu (by omega) (by omega) (Dv_su (by omega) (by omega) (dbS (PC.cons (by rfl) (PC.cons (by rfl) (PC.cons (by rfl) (PC.cons (by rfl) PC.nil)))) (by rfl) ?_)))
 refine stA h 1 rfl rfl rfl rfl fun w h => ?_
 refine rcA h 1 rfl rfl ?_
 exact lf1 _ (h.pick [] (by decide) rfl)
 refine cl1 h n_ref26_pick (cc4 h.ext) fun w h => ?_
 refine Dv_qt (by omega) (by omega) (by omega) (Dv_mu (by omega) (by omega) (bsN (vs := [_, _, _, _]) h (.cons (by rfl) (by rfl) (.cons (by rfl) (by rfl) (.cons (by rfl) (by rfl) (.cons (by rfl) (by rfl) .nil)))) (by rfl) (by rfl) (by decide) (by decide) (by decide) fun v1 w h => ?_))
 refine kl1 h 2 rfl rfl (kl1 h 2 rfl rfl (kl1 h 2 rfl rfl (kl1 h 2 rfl rfl (kl1 h 2 rfl rfl (kl1 h 2 rfl rfl (kl1 h 2 rfl rfl (diRz h 0 rfl (by omega) (by omega) fun zg zk zv => ?_)))))))
 refine dr0 h 0 rfl ‹_› ‹_› (by rfl) ?_
 refine Dv_ad (by omega) (by omega) (Dv_su (by omega) (by omega) (dbS (PC.cons (by rfl) (PC.cons (by rfl) (PC.cons (by rfl) (PC.cons (by rfl) PC.nil)))) (by rfl) ?_))
 refine stA h 1 rfl rfl rfl rfl fun w h => ?_
 refine rcA h 1 rfl rfl ?_
 exact lf1 _ (h.pick [] (by decide) rfl)
 refine bsN (vs := [_, _, _, _]) h (.cons (by rfl) (by rfl) (.cons (by rfl) (by rfl) (.cons (by rfl) (by rfl) (.cons (by rfl) (by rfl) .nil)))) (by rfl) (by rfl) (by decide) (by decide) (by decide) fun v1 w h => ?_
 refine kl1 h 2 rfl rfl (kl1 h 2 rfl rfl (kl1 h 2 rfl rfl (kl1 h 2 rfl rfl (kl1 h 2 rfl rfl (kl1 h 2 rfl rfl (kl1 h 2 rfl rfl (cl1 h n_ref26_Small (cc3 h.ext) fun w h => ?_)))))))
 refine kl1 h 2 rfl rfl (kl1 h 2 rfl rfl (kl1 h 2 rfl rfl (cl1 h n_ref26_pick (cc4 h.ext) fun w h => ?_)))
 refine kl1 h 2 rfl rfl (kl1 h 2 rfl rfl (diRz h 0 rfl (by omega) (by omega) fun zg zk zv => ?_))
 refine dr0 h 0 rfl ‹_› ‹_› (by rfl) ?_
 refine cl1 h n_ref26_pick (cc5 h.ext) fun w h => ?_
 refine kl1 h 2 rfl rfl (kr0 h 0 rfl ‹_› ‹_› (by rfl) ?_)
 refine Dv_ad (by omega) (by omega) (cl1 h n_ref26_pick (cc4 h.ext) fun w h => ?_)
 refine kr0 h 0 rfl ‹_› ‹_› (by rfl) ?_
 refine Dv_qt (by omega) (by omega) (by omega) (Dv_mu (by omega) (by omega) (Dv_su (by omega) (by omega) (dbS (PC.cons (by rfl) (PC.cons (by rfl) (PC.cons (by rfl) (PC.cons (by rfl) PC.nil)))) (by rfl) ?_)))
 refine stA h 1 rfl rfl rfl rfl fun w h => ?_
 refine rcA h 1 rfl rfl ?_
 exact lf1 _ (h.pick [] (by decide) rfl)
 refine bsN (vs := [_, _, _, _]) h (.cons (by rfl) (by rfl) (.cons (by rfl) (by rfl) (.cons (by rfl) (by rfl) (.cons (by rfl) (by rfl) .nil)))) (by rfl) (by rfl) (by decide) (by decide) (by decide) fun v1 w h => ?_
 refine kl1 h 2 rfl rfl (kl1 h 2 rfl rfl (kl1 h 2 rfl rfl (kl1 h 2 rfl rfl (kl1 h 2 rfl rfl (kl1 h 2 rfl rfl (kl1 h 2 rfl rfl (cl1 h n_ref26_pick (cc2 h.ext) fun w h => ?_)))))))
 refine kl1 h 2 rfl rfl (kl1 h 2 rfl rfl (kl1 h 2 rfl rfl (kl1 h 2 rfl rfl (kl1 h 2 rfl rfl (cl1 h n_ref26_Small (cc3 h.ext) fun w h => ?_)))))
 refine kl1 h 2 rfl rfl (kl1 h 2 rfl rfl (kl1 h 2 rfl rfl (cl1 h n_ref26_pick (cc4 h.ext) fun w h => ?_)))
 refine kl1 h 2 rfl rfl (kl1 h 2 rfl rfl (diRz h 0 rfl (by omega) (by omega) fun zg zk zv => ?_))
 refine dr0 h 0 rfl ‹_› ‹_› (by rfl) ?_
 refine cl1 h n_ref26_pick (cc5 h.ext) fun w h => ?_
 refine kl1 h 2 rfl rfl (kr0 h 0 rfl ‹_› ‹_› (by rfl) ?_)
 refine Dv_ad (by omega) (by omega) (cl1 h n_ref26_pick (cc4 h.ext) fun w h => ?_)
 refine kr0 h 0 rfl ‹_› ‹_› (by rfl) ?_
 refine Dv_qt (by omega) (by omega) (by omega) (Dv_mu (by omega) (by omega) (Dv_su (by omega) (by omega) (dbS (PC.cons (by rfl) (PC.cons (by rfl) (PC.cons (by rfl) (PC.cons (by rfl) PC.nil)))) (by rfl) ?_)))
 refine stA h 1 rfl rfl rfl rfl fun w h => ?_
 refine rcA h 1 rfl rfl ?_
 exact lf1 _ (h.pick [] (by decide) rfl)
 refine bsN (vs := [_, _, _, _]) h (.cons (by rfl) (by rfl) (.cons (by rfl) (by rfl) (.cons (by rfl) (by rfl) (.cons (by rfl) (by rfl) .nil)))) (by rfl) (by rfl) (by decide) (by decide) (by decide) fun v1 w h => ?_
 refine kl1 h 2 rfl rfl (kl1 h 2 rfl rfl (kl1 h 2 rfl rfl (kl1 h 2 rfl rfl (kl1 h 2 rfl rfl (kl1 h 2 rfl rfl (kl1 h 2 rfl rfl (cl1 h n_ref26_pick (cc1 h.ext) fun w h => ?_)))))))
 refine kl1 h 2 rfl rfl (kl1 h 2 rfl rfl (kl1 h 2 rfl rfl (kl1 h 2 rfl rfl (kl1 h 2 rfl rfl (kl1 h 2 rfl rfl (cl1 h n_ref26_pick (cc2 h.ext) fun w h => ?_))))))
 refine kl1 h 2 rfl rfl (kl1 h 2 rfl rfl (kl1 h 2 rfl rfl (kl1 h 2 rfl rfl (kl1 h 2 rfl rfl (cl1 h n_ref26_Small (cc3 h.ext) fun w h => ?_)))))
 refine kl1 h 2 rfl rfl (kl1 h 2 rfl rfl (kl1 h 2 rfl rfl (cl1 h n_ref26_pick (cc4 h.ext) fun w h => ?_)))
 refine kl1 h 2 rfl rfl (kl1 h 2 rfl rfl (diRz h 0 rfl (by omega) (by omega) fun zg zk zv => ?_))
 refine dr0 h 0 rfl ‹_› ‹_› (by rfl) ?_
 refine cl1 h n_ref26_pick (cc5 h.ext) fun w h => ?_
 refine kl1 h 2 rfl rfl (kr0 h 0 rfl ‹_› ‹_› (by rfl) ?_)
 refine Dv_ad (by omega) (by omega) (cl1 h n_ref26_pick (cc4 h.ext) fun w h => ?_)
 refine kr0 h 0 rfl ‹_› ‹_› (by rfl) ?_
 refine Dv_qt (by omega) (by omega) (by omega) (Dv_mu (by omega) (by omega) (Dv_su (by omega) (by omega) (dbS (PC.cons (by rfl) (PC.cons (by rfl) (PC.cons (by rfl) (PC.cons (by rfl) PC.nil)))) (by rfl) ?_)))
 refine stA h 1 rfl rfl rfl rfl fun w h => ?_
 refine rcA h 1 rfl rfl ?_
 exact lf1 _ (h.pick [] (by decide) rfl)
abbrev cutR (p : RS) : RS := (p.1.take 50, p.2.take 50)
def cutL (l : List RS) : List RS := (l.take 13).map cutR
theorem cutL_ok (l : List RS) : RSok (cutL l) := fun p hp => by
 obtain ⟨q, _, rfl⟩ := List.mem_map.1 hp
 exact ⟨by rw [List.length_take]; omega, by rw [List.length_take]; omega⟩
theorem cutL_len (l : List RS) : (cutL l).length ≤ 13 := by unfold cutL; rw [List.length_map, List.length_take]; omega
theorem take_min {s : List UInt8} : s.take (min (s.length : Int) 50).toNat = s.take 50 := by
 by_cases h : s.length ≤ 50
 ·rw [List.take_of_length_le (by omega), List.take_of_length_le h]
 ·rw [show (min (s.length : Int) 50).toNat = 50 by omega]
set_option maxHeartbeats 4000000 in
theorem c_cut {w0 : World} {v : Value} {l : List RS} (hv : SlC w0 2 v l.length (l.flatMap fR)) (hll : l.length ≤ 9223372036854775807) : Calls Tryz.prog 10 #[v] w0 (Ret fun r w' => Hp [] w0 w' [ro tR 2 r (cutL l).length ((cutL l).flatMap fR)]) := by
 apply e_law26_cut
 unfold s_law26_cut
 have h := Hp.init [] w0
 have h := h.nil tR 2
 refine Lp2.mk (fun u i W => ∃ j : Nat, j ≤ l.length ∧ j ≤ 13 ∧ i = .int .i64 j ∧ Hp [] w0 W [ro tR 2 u j (((l.take j).map cutR).flatMap fR)])
  (fun _ i _ => match i with | .int _ i' => l.length - i'.toNat | _ => 0) ⟨0, by omega, by omega, rfl, h⟩ ?_
 clear h
 rintro u _ W ⟨j, hj, hj13, rfl, h⟩
 by_cases hjl : j < l.length
 rotate_left
 ·have e : cutL l = (l.take j).map cutR := by unfold cutL; rw [List.take_of_length_le (by omega), List.take_of_length_le (by omega)]
  have el : (cutL l).length = j := by rw [e, List.length_map, take_len hj]
  refine leS (hv.hp h) ?_
  refine Bn_ltF (by omega) (Gd_FT (Gd_FT (Pick_F (If_F ?_))))
  exact Ret.mk (by rw [el, e]; exact h)
 by_cases hj3 : j < 13
 rotate_left
 ·have e : cutL l = (l.take j).map cutR := by unfold cutL; rw [show j = 13 by omega]
  have el : (cutL l).length = j := by rw [e, List.length_map, take_len hj]
  refine leS (hv.hp h) ?_
  refine Bn_ltT (by omega) (Gd_T (Gd_T (Bn_ltF (by omega) (Pick_T (If_F ?_)))))
  exact Ret.mk (by rw [el, e]; exact h)
 refine Exists.elim (p := fun x => l[j]? = some x) ⟨_, List.getElem?_eq_getElem hjl⟩ fun x hx => ?_
 have sx : Seg (l.flatMap fR) (j * 2) (fR x) := flat_seg (f := fR) (fun _ => rfl) hx
 refine leS (hv.hp h) ?_
 refine Bn_ltT (by omega) (Gd_T (Gd_T (Bn_ltT (by omega) (Pick_T (If_T ?_)))))
 replace h := h.dr
 refine diH h ‹_› (by omega) fun zb zo zk zv zc => ?_
 refine dfS (dh1 h ‹_› ‹_› (by rfl) ?_)
 refine diH h ‹_› (by omega) fun zb zo zk zv zc => ?_
 refine dfS (dh1 h ‹_› ‹_› (by rfl) ?_)
 refine Dv_lenT (Dv_min (Dv_tH (by omega) (by omega) (diH h ‹_› (by omega) fun zb zo zk zv zc => ?_)))
 refine dfS (dh1 h ‹_› ‹_› (by rfl) ?_)
 refine diH h ‹_› (by omega) fun zb zo zk zv zc => ?_
 refine dfS (dh1 h ‹_› ‹_› (by rfl) ?_)
 refine Dv_lenT (Dv_min (Dv_tH (by omega) (by omega) (dbS (PC.cons (by rfl) (PC.cons (by rfl) PC.nil)) (by rfl) ?_)))
 refine bs1A h (by rfl) (by decide) (by rfl) (by decide) fun v1 w h => ?_
 refine apR (by rfl) (by decide) h 1 rfl (qZ 0 h rfl) (by first | rfl | assumption) (by omega) fun v2 w h => ?_
 refine Bn_ad (by omega) (by omega) ?_
 dsimp only [List.set] at h
 refine ⟨⟨j + 1, by omega, by omega, rfl, ?_⟩, by show l.length - ((j : Int) + 1).toNat < l.length - (j : Int).toNat; omega⟩
 rw [take_min, take_min] at h
 rw [take_snoc hx, List.map_append, List.flatMap_append]
 exact h.pick [1] (by decide) rfl
abbrev I2 := Int × Int
abbrev f2 (a : I2) : List Value := [.int .i64 a.1, .int .i64 a.2]
abbrev txs (l : List Rat) : List RS := l.map tx
theorem txs_app (a b : List Rat) : txs (a ++ b) = txs a ++ txs b := List.map_append
abbrev qid (x : Rat) : Rat := x
theorem lsum_snoc {α : Type} (g : α → Rat) (a : α) : ∀ l : List α, lsum g (l ++ [a]) = lsum g l + g a
 | [] => by show g a + 0 = 0 + g a; grind
 | x :: l => by
  show g x + lsum g (l ++ [a]) = g x + lsum g l + g a
  rw [lsum_snoc g a l]; grind
theorem DR.lsum {D M : Nat} (hD : 0 < D) : ∀ {l : List Rat}, (∀ x ∈ l, DR D M x) → DR D (l.length * M) (lsum qid l)
 | [], _ => .zero
 | e :: l, h => by
  have h1 := h e (by simp)
  have h2 := DR.lsum hD (l := l) (fun x hx => h x (by simp [hx]))
  have := h1.add h2 hD
  rw [List.length_cons, Nat.add_mul, Nat.one_mul, Nat.add_comm]
  exact this
structure GS (D : Nat) (l : List Rat) : Prop where
 d0 : 0 < D
 d1 : D ≤ 126000
 dr : ∀ x ∈ l, DR D 2500 x
 nn : ∀ x ∈ l, 0 ≤ x
 len : l.length ≤ 12
theorem GS.take {D : Nat} {l : List Rat} (h : GS D l) (k : Nat) : GS D (l.take k) := ⟨h.d0, h.d1, fun x hx => h.dr x (List.mem_of_mem_take hx), fun x hx => h.nn x (List.mem_of_mem_take hx), by rw [List.length_take]; have := h.len; omega⟩
theorem dr_sz {D M : Nat} {x : Rat} (h : DR D M x) (h0 : 0 < D) (hD : D ≤ 126000) {k : Nat} (hM : M * 126000 < 10 ^ k) : SR k 6 x := by
 have h1 := h.num h0
 refine ⟨Nat.lt_of_le_of_lt h1.1 (Nat.lt_of_le_of_lt (Nat.mul_le_mul_left M hD) hM), Nat.lt_of_le_of_lt h1.2 (Nat.lt_of_le_of_lt hD (by decide))⟩
theorem dr_sml {D M : Nat} {x : Rat} (h : DR D M x) (h0 : 0 < D) (hD : D ≤ 126000) (hM : M ≤ 10 ^ 20) : Sml x :=
 (dr_sz h h0 hD (k := 30) (Nat.lt_of_le_of_lt (Nat.mul_le_mul_right _ hM) (by decide +kernel))).mono (by decide) (by decide)
theorem GS.sum {D : Nat} {l : List Rat} (h : GS D l) : DR D 30000 (lsum qid l) := (DR.lsum h.d0 h.dr).mono h.d0 h.d0 (Nat.dvd_refl _) (by have := h.len; omega)
theorem GS.ssum {D : Nat} {l : List Rat} (h : GS D l) : Sml (lsum qid l) := dr_sml h.sum h.d0 h.d1 (by decide)
theorem GS.sml {D : Nat} {l : List Rat} (h : GS D l) {x : Rat} (hx : x ∈ l) : Sml x := dr_sml (h.dr x hx) h.d0 h.d1 (by decide)
theorem smQ_DR (n d : Int) : DR 2520 50 (smQ n d) := by
 have b1 := pickZ_bd (c := n) (n := 10) (by decide)
 have b2 := pickZ_bd (c := d) (n := 9) (by decide)
 refine DR.of (by omega) ?_ (by decide) (by omega)
 have h : (1 + pickZ d 9).natAbs = 1 ∨ (1 + pickZ d 9).natAbs = 2 ∨ (1 + pickZ d 9).natAbs = 3 ∨ (1 + pickZ d 9).natAbs = 4 ∨ (1 + pickZ d 9).natAbs = 5 ∨ (1 + pickZ d 9).natAbs = 6 ∨ (1 + pickZ d 9).natAbs = 7 ∨ (1 + pickZ d 9).natAbs = 8 ∨ (1 + pickZ d 9).natAbs = 9 := by omega
 rcases h with h | h | h | h | h | h | h | h | h <;> rw [h] <;> decide
theorem div_nn {n d : Int} (hn : 0 ≤ n) (hd : 0 < d) : (0 : Rat) ≤ (n : Rat) / (d : Rat) := by
 have h1 : (0 : Rat) < (d : Rat) := by exact_mod_cast hd
 refine Rat.not_lt.1 fun h => ?_
 have := (Rat.div_lt_iff h1).1 h
 rw [Rat.zero_mul] at this
 have h2 : (0 : Rat) ≤ (n : Rat) := by exact_mod_cast hn
 grind
theorem div_pos' {n d : Int} (hn : 0 < n) (hd : 0 < d) : (0 : Rat) < (n : Rat) / (d : Rat) := by
 have h1 : (0 : Rat) < (d : Rat) := by exact_mod_cast hd
 refine (Rat.lt_div_iff h1).2 ?_
 rw [Rat.zero_mul]; exact_mod_cast hn
theorem smQ_nn (n d : Int) : 0 ≤ smQ n d := by
 have b1 := pickZ_bd (c := n) (n := 10) (by decide)
 have b2 := pickZ_bd (c := d) (n := 9) (by decide)
 exact div_nn b1.1 (by omega)
abbrev fTx (x : Rat) : List Value := [str (eN (some x)), str (eD (some x))]
theorem txs_flat : ∀ l : List Rat, (txs l).flatMap fR = l.flatMap fTx
 | [] => rfl
 | x :: l => by rw [List.flatMap_cons, ← txs_flat l]; rfl
theorem txs_len (l : List Rat) : (txs l).length = l.length := List.length_map ..
abbrev I5 := Int × Int × Int × Int × Int
abbrev f5 (a : I5) : List Value := [.int .i64 a.1, .int .i64 a.2.1, .int .i64 a.2.2.1, .int .i64 a.2.2.2.1, .int .i64 a.2.2.2.2]
def I5ok (l : List I5) : Prop := ∀ a ∈ l, I64 a.1 ∧ I64 a.2.1 ∧ I64 a.2.2.1 ∧ I64 a.2.2.2.1 ∧ I64 a.2.2.2.2
def ltZ (y : I5) : Int := pickZ (y.1.tdiv 3) 60 - 15
def shQ (y : I5) : List Rat := [smQ y.2.1 y.2.2.1, smQ y.2.2.1 y.2.2.2.1, smQ y.2.2.2.1 y.2.2.2.2, qI (1 + pickZ y.2.2.2.2 3)]
def MadeE (i : Nat) (e : LE) : Prop := ∃ y : I5, e.rq = 3 * (i : Int) + pickZ y.1 3 ∧ ((ltZ y ≤ 0 ∧ e.lt = 0 ∧ e.sh = []) ∨ (0 < ltZ y ∧ e.lt = ltZ y ∧ e.sh = txs (shQ y)))
def MadeL (l : List LE) : Prop := ∀ i e, l[i]? = some e → MadeE i e
abbrev shE (ks : List Nat) (l : List LE) : Et := ⟨ks, fun w => ∀ e ∈ l, SlC w 2 (.slice e.a e.n e.k) e.sh.length (e.sh.flatMap fR)⟩
def OwnK (ks : List Nat) (l : List LE) : Prop := ∀ e ∈ l, ∀ k, (Value.slice e.a e.n e.k).ownBlock = some k → k ∈ ks
theorem shE_sm {ks : List Nat} {l : List LE} (h : OwnK ks l) : (shE ks l).Simple := fun B S w hq w' _ hb e he => (hq e he).mv fun k hk hl => hb k hl (.inl (h e he k hk))
theorem OwnK.snoc {ks ks' : List Nat} {l : List LE} {e : LE} (h : OwnK ks l) (hs : ∀ k ∈ ks, k ∈ ks') (he : ∀ k, (Value.slice e.a e.n e.k).ownBlock = some k → k ∈ ks') : OwnK ks' (l ++ [e]) := fun x hx k hk => by
 rcases List.mem_append.1 hx with hx | hx
 ·exact hs k (h x hx k hk)
 ·simp at hx; subst hx; exact he k hk
theorem MadeL.snoc {l : List LE} {e : LE} (h : MadeL l) (he : MadeE l.length e) : MadeL (l ++ [e]) := fun i x hx => by
 by_cases hi : i < l.length
 ·rw [List.getElem?_append_left hi] at hx
  exact h i x hx
 ·have hlt := (List.getElem?_eq_some_iff.1 hx).1
  simp at hlt
  have hi' : i = l.length := by omega
  subst hi'
  simp at hx
  subst hx
  exact he
theorem all_snoc {w : World} {l : List LE} {e : LE} (h : ∀ e ∈ l, SlC w 2 (.slice e.a e.n e.k) e.sh.length (e.sh.flatMap fR)) (he : SlC w 2 (.slice e.a e.n e.k) e.sh.length (e.sh.flatMap fR)) : ∀ x ∈ l ++ [e], SlC w 2 (.slice x.a x.n x.k) x.sh.length (x.sh.flatMap fR) := fun x hx => by
 rcases List.mem_append.1 hx with hx | hx
 ·exact h x hx
 ·simp at hx; subst hx; exact he
theorem slc_n {w : World} {c : Nat} : SlC w c (.slice none 0 0) 0 [] := ⟨by simp, .inl ⟨rfl, rfl⟩⟩
set_option maxHeartbeats 8000000 in
theorem c_Requests {w0 : World} {v : Value} {l : List I5} (hv : SlC w0 5 v l.length (l.flatMap f5)) (hok : I5ok l) (hll : l.length ≤ 9223372036854775807) :
 Calls Tryz.prog 11 #[v] w0 (Ret fun r w' => ∃ (ks : List Nat) (L : List LE), L.length ≤ 12 ∧ MadeL L ∧ OwnK ks L ∧ Hp [] w0 w' [ro tLt 3 r L.length (L.flatMap fL), shE ks L]) := by
 apply e_ref26_Requests
 unfold s_ref26_Requests
 have h := Hp.init [] w0
 have h : Hp [] w0 w0 [shE [] []] := h.nw (fun _ _ _ e he => by simp at he) (fun k hk => by simp at hk) (fun x hx => by simp at hx)
 have h := h.nil tLt 3
 refine Lp2.mk (fun u i W => ∃ (j : Nat) (ks : List Nat) (L : List LE), j ≤ l.length ∧ j ≤ 12 ∧ L.length = j ∧ MadeL L ∧ OwnK ks L ∧ i = .int .i64 j ∧ Hp [] w0 W [ro tLt 3 u j (L.flatMap fL), shE ks L])
  (fun _ i _ => match i with | .int _ i' => l.length - i'.toNat | _ => 0) ⟨0, [], [], by omega, by omega, rfl, fun i e h => by simp at h, fun e he => by simp at he, rfl, h⟩ ?_
 clear h
 rintro u _ W ⟨j, ks, L, hj, hj12, hL, hM, hO, rfl, h⟩
 by_cases hjl : j < l.length
 rotate_left
 ·refine leS (hv.hp h) ?_
  refine Bn_ltF (by omega) (Gd_FT (Gd_FT (Pick_F (If_F ?_))))
  exact Ret.mk ⟨ks, L, by omega, hM, hO, by rw [hL]; exact h⟩
 by_cases hj3 : j < 12
 rotate_left
 ·refine leS (hv.hp h) ?_
  refine Bn_ltT (by omega) (Gd_T (Gd_T (Bn_ltF (by omega) (Pick_T (If_F ?_)))))
  exact Ret.mk ⟨ks, L, by omega, hM, hO, by rw [hL]; exact h⟩
 refine Exists.elim (p := fun x => l[j]? = some x) ⟨_, List.getElem?_eq_getElem hjl⟩ fun y hy => ?_
 have sy : Seg (l.flatMap f5) (j * 5) (f5 y) := flat_seg (f := f5) (fun _ => rfl) hy
 have oy := hok y (List.mem_of_getElem? hy)
 have o1 := oy.1
 have o2 := oy.2.1
 have o3 := oy.2.2.1
 have o4 := oy.2.2.2.1
 have o5 := oy.2.2.2.2
 have o6 := tdiv_bd (y := 3) o1.1 o1.2 (by decide)
 have b1 := pickZ_bd (c := y.1) (n := 3) (by decide)
 have b2 := pickZ_bd (c := y.1.tdiv 3) (n := 60) (by decide)
 have b3 := pickZ_bd (c := y.2.2.2.2) (n := 3) (by decide)
 have cc1 := fun {W : World} (_ : Ext w0 W) => c_pickR (w := W) (c := y.1) (n := 3) o1 (by decide)
 have cc2 := fun {W : World} (_ : Ext w0 W) => c_pickR (w := W) (c := y.1.tdiv 3) (n := 60) o6 (by decide)
 have cc3 := fun {W : World} (_ : Ext w0 W) => c_Small (w0 := W) (n := y.2.1) (d := y.2.2.1) o2 o3
 have cc4 := fun {W : World} (_ : Ext w0 W) => c_Small (w0 := W) (n := y.2.2.1) (d := y.2.2.2.1) o3 o4
 have cc5 := fun {W : World} (_ : Ext w0 W) => c_Small (w0 := W) (n := y.2.2.2.1) (d := y.2.2.2.2) o4 o5
 have cc6 := fun {W : World} (_ : Ext w0 W) => c_pickR (w := W) (c := y.2.2.2.2) (n := 3) o5 (by decide)
 have cc7 := fun {W : World} (_ : Ext w0 W) => c_fOf1 (w := W) (n := 1 + pickZ y.2.2.2.2 3) (by omega)
 refine leS (hv.hp h) ?_
 refine Bn_ltT (by omega) (Gd_T (Gd_T (Bn_ltT (by omega) (Pick_T (If_T ?_)))))
 refine Jn1.lfb tLt [.int .i64 (3 * (j : Int) + pickZ y.1 3), .int .i64 (pickZ (y.1.tdiv 3) 60 - 15), .slice none 0 0] h (fun K lf1 => ?_) (fun gx w h => ?_)
 ·replace h := h.dr
  refine Dv_mu (by omega) (by omega) (diH h ‹_› (by omega) fun zb zo zk zv zc => ?_)
  refine diZ (by decide) (by decide) ?_
  refine dh1 h ‹_› ‹_› (by rfl) ?_
  refine diH h ‹_› (by omega) fun zb zo zk zv zc => ?_
  refine diZ (by decide) (by decide) ?_
  refine dh1 h ‹_› ‹_› (by rfl) ?_
  refine Dv_qt (by omega) (by omega) (by omega) ?_
  refine ⟨?_, ?_⟩
  refine cl1 h n_ref26_pick (cc1 h.ext) fun w h => ?_
  refine kh1 h ‹_› ‹_› (by rfl) ?_
  refine Dv_ad (by omega) (by omega) ?_
  refine ⟨?_, ?_⟩
  refine cl1 h n_ref26_pick (cc2 h.ext) fun w h => ?_
  refine Dv_su (by omega) (by omega) (dbS (PC.cons (by rfl) (PC.cons (by rfl) PC.nil)) (by rfl) ?_)
  refine alS h fun g1 w h => ?_
  refine kh1 h ‹_› ‹_› (by rfl) ?_
  refine kh1 h ‹_› ‹_› (by rfl) ?_
  refine stA h 0 rfl rfl rfl rfl fun w h => ?_
  exact lf1 _ _ h
  refine alS h fun g1 w h => ?_
  refine kh1 h ‹_› ‹_› (by rfl) ?_
  refine kh1 h ‹_› ‹_› (by rfl) ?_
  refine cl1 h n_ref26_pick (cc2 h.ext) fun w h => ?_
  refine Dv_su (by omega) (by omega) (dbS (PC.cons (by rfl) (PC.cons (by rfl) PC.nil)) (by rfl) ?_)
  refine stA h 0 rfl rfl rfl rfl fun w h => ?_
  exact lf1 _ _ h
  refine alS h fun g1 w h => ?_
  refine kh1 h ‹_› ‹_› (by rfl) ?_
  refine kh1 h ‹_› ‹_› (by rfl) ?_
  refine cl1 h n_ref26_pick (cc1 h.ext) fun w h => ?_
  refine kh1 h ‹_› ‹_› (by rfl) ?_
  refine Dv_ad (by omega) (by omega) (cl1 h n_ref26_pick (cc2 h.ext) fun w h => ?_)
  refine Dv_su (by omega) (by omega) (dbS (PC.cons (by rfl) (PC.cons (by rfl) PC.nil)) (by rfl) ?_)
  refine stA h 0 rfl rfl rfl rfl fun w h => ?_
  exact lf1 _ _ h
 by_cases h0 : pickZ (y.1.tdiv 3) 60 - 15 ≤ 0
 ·refine Jn0.mk fun K hK => ?_
  have lf1 : ∀ w, Hp [] w0 w [bx gx tLt [.int .i64 (3 * (j : Int) + pickZ y.1 3), .int .i64 0, .slice none 0 0], ro tLt 3 u j (L.flatMap fL), shE ks L] → K w := by
   clear h
   intro w h
   refine hK _ ?_
   clear hK
   refine ldA h 0 rfl rfl ?_
   refine bs1A h (by rfl) (by decide) (by rfl) (by decide) fun v1 w h => ?_
   refine apR (by rfl) (by decide) h 2 rfl (qZ 0 h rfl) (by first | rfl | assumption) (by omega) fun v2 w h => ?_
   refine Bn_ad (by omega) (by omega) ?_
   dsimp only [List.set] at h
   refine ⟨⟨j + 1, ks, L ++ [⟨3 * (j : Int) + pickZ y.1 3, 0, none, 0, 0, []⟩], by omega, by omega, by rw [List.length_append, hL]; rfl, hM.snoc ⟨y, by rw [hL], .inl ⟨h0, rfl, rfl⟩⟩, hO.snoc (fun k h => h) (fun k h => by simp [Value.ownBlock] at h), rfl, ?_⟩, by show l.length - ((j : Int) + 1).toNat < l.length - (j : Int).toNat; omega⟩
   rw [List.flatMap_append]
   have h := h.pick [3, 2] (by decide) rfl
   exact (Hp.wk1 h (Q := fun w => ∀ e ∈ L ++ [⟨3 * (j : Int) + pickZ y.1 3, 0, none, 0, 0, []⟩], SlC w 2 (.slice e.a e.n e.k) e.sh.length (e.sh.flatMap fR)) fun w hw => all_snoc hw slc_n).up1
  clear hK
  refine faS (Eng.ld1 h 0 rfl rfl (Bn_leT (by omega) (If_T (faS (st1 h 0 rfl rfl rfl rfl fun w h => ?_)))))
  exact lf1 _ h
 ·refine Jn0.mk fun K hK => ?_
  have lf1 : ∀ s w, Hp [] w0 w [ro tR 2 s 4 ((txs (shQ y)).flatMap fR), bx gx tLt [.int .i64 (3 * (j : Int) + pickZ y.1 3), .int .i64 (pickZ (y.1.tdiv 3) 60 - 15), s], ro tLt 3 u j (L.flatMap fL), shE ks L] → K w := by
   clear h
   intro s w h
   obtain ⟨a, m, k, rfl⟩ := slc_mk (qZ 0 h rfl)
   refine hK _ ?_
   clear hK
   refine ldA h 1 rfl rfl ?_
   refine bs1A h (by rfl) (by decide) (by rfl) (by decide) fun v1 w h => ?_
   refine apR (by rfl) (by decide) h 3 rfl (qZ 0 h rfl) (by first | rfl | assumption) (by omega) fun v2 w h => ?_
   refine Bn_ad (by omega) (by omega) ?_
   dsimp only [List.set] at h
   refine ⟨⟨j + 1, (Value.slice a m k).ownBlock.toList ++ ks, L ++ [⟨3 * (j : Int) + pickZ y.1 3, ltZ y, a, m, k, txs (shQ y)⟩], by omega, by omega, by rw [List.length_append, hL]; rfl, hM.snoc ⟨y, by rw [hL], .inr ⟨by unfold ltZ; omega, rfl, rfl⟩⟩, hO.snoc (fun k h => List.mem_append_right _ h) (fun k h => List.mem_append_left _ (by rw [h]; simp)), rfl, ?_⟩, by show l.length - ((j : Int) + 1).toNat < l.length - (j : Int).toNat; omega⟩
   rw [List.flatMap_append]
   have h := h.pick [1, 4, 3] (by decide) rfl
   exact (Hp.jn h (Q := fun w => ∀ e ∈ L ++ [⟨3 * (j : Int) + pickZ y.1 3, ltZ y, a, m, k, txs (shQ y)⟩], SlC w 2 (.slice e.a e.n e.k) e.sh.length (e.sh.flatMap fR)) fun w h1 h2 => all_snoc h2 (ownsRow_sl h1)).up1
  clear hK
  refine faS (Eng.ld1 h 0 rfl rfl (Bn_leF (by omega) (If_F ?_)))
  replace h := h.dr
  refine diH h ‹_› (by omega) fun zb zo zk zv zc => ?_
  refine diZ (by decide) (by decide) ?_
  refine dh1 h ‹_› ‹_› (by rfl) ?_
  refine diH h ‹_› (by omega) fun zb zo zk zv zc => ?_
  refine diZ (by decide) (by decide) ?_
  refine dh1 h ‹_› ‹_› (by rfl) ?_
  refine diH h ‹_› (by omega) fun zb zo zk zv zc => ?_
  refine diZ (by decide) (by decide) ?_
  refine dh1 h ‹_› ‹_› (by rfl) ?_
  refine diH h ‹_› (by omega) fun zb zo zk zv zc => ?_
  refine diZ (by decide) (by decide) ?_
  refine dh1 h ‹_› ‹_› (by rfl) ?_
  refine diH h ‹_› (by omega) fun zb zo zk zv zc => ?_
  refine diZ (by decide) (by decide) ?_
  refine dh1 h ‹_› ‹_› (by rfl) ?_
  refine diH h ‹_› (by omega) fun zb zo zk zv zc => ?_
  refine diZ (by decide) (by decide) ?_
  refine dh1 h ‹_› ‹_› (by rfl) ?_
  refine diH h ‹_› (by omega) fun zb zo zk zv zc => ?_
  refine diZ (by decide) (by decide) ?_
  refine dh1 h ‹_› ‹_› (by rfl) ?_
  refine cl1 h n_ref26_Small (cc3 h.ext) fun w h => ?_
  refine kh1 h ‹_› ‹_› (by rfl) ?_
  refine kh1 h ‹_› ‹_› (by rfl) ?_
  refine kh1 h ‹_› ‹_› (by rfl) ?_
  refine kh1 h ‹_› ‹_› (by rfl) ?_
  refine kh1 h ‹_› ‹_› (by rfl) ?_
  refine cl1 h n_ref26_Small (cc4 h.ext) fun w h => ?_
  refine kh1 h ‹_› ‹_› (by rfl) ?_
  refine kh1 h ‹_› ‹_› (by rfl) ?_
  refine kh1 h ‹_› ‹_› (by rfl) ?_
  refine cl1 h n_ref26_Small (cc5 h.ext) fun w h => ?_
  refine kh1 h ‹_› ‹_› (by rfl) ?_
  refine cl1 h n_ref26_pick (cc6 h.ext) fun w h => ?_
  refine Dv_ad (by omega) (by omega) (cl1 h n_ref26_Of (cc7 h.ext) fun w h => ?_)
  refine bsN (vs := [_, _, _, _]) h (.cons (by rfl) (by rfl) (.cons (by rfl) (by rfl) (.cons (by rfl) (by rfl) (.cons (by rfl) (by rfl) .nil)))) (by rfl) (by rfl) (by decide) (by decide) (by decide) fun v1 w h => ?_
  refine dfS (st1w h 1 rfl (qZ 0 h rfl) rfl fun w h => ?_)
  exact lf1 _ _ h
end Go.Proofs.YtjmdnjnjepinoaaGreatDoor
